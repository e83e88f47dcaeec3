import PyProof.Rows.All
import Wide.All
import OpenK.AllK
import Wide.FinOn
import PySem.Challenge.RW_struckpieces_k27_whole_bases_and_two_boo
import HandS.ForMost
import HandS.ForExc
import HandS.ExcInit
import HandS.ExcIs
import HandS.Nested
import KE.KExcSuper
import KE.KExcIs
import HandS.IsInst
import HandS.ExcValue
import HandS.ExcField
import KE.KStateDown
import HandS.Head0
import HandS.Head1
import HandS.Head2
import HandS.HeadEnd
import HandS.HeadHook1
import HandS.HeadHook2
import HandS.Zip
import HandS.Evl
import KE.KNestM
import HandS.HeadHook4
import HandS.EndTab
import HandS.HeadWalk
import HandS.Lambda
import HandS.TupAny
import HandS.TupMul
import HandS.StrMore
import HandS.Style
import HandS.OwnEq
import HandS.Walk
import HandS.Dict
import HandS.More
import PyProof.Rows.SetFrom
import PyProof.Rows.SortStr
import PyProof.Rows.SortShellAny
import PyProof.StrWalks
import HandS.Set
import HandS.Strs
import HandS.SetTxt0
import PyProof.TupleIter
import PyProof.ListStr
import PyProof.Draws
import KE.GoesMore
import HandS.Iter
import KE.KRevSl
import PyProof.InstEq
import HandS.ExcOwn
import HandS.Deep
import HandS.Replace
import HandS.Small
import PyProof.Rows.StrRev
import PyProof.Rows.StrLawsPart
import PyProof.StrLawsIn
import HandS.SortKw
import HandS.DictComp
import KE.DataMinMax
import PyProof.DictUpdate
import HandS.Exc
import HandS.TryMany
import KE.DataFind
import KE.KDictSum
import HandS.SortRule
import HandS.Sort
import KE.SortKeyHeap
import HandS.Conv
import KE.DataMinKey
import KE.LtData
import PyProof.Claim2Refuses
import HandS.SetFor
import PyProof.TupleOfSeq
set_option Elab.async false
set_option linter.all false
set_option maxRecDepth 100000
set_option maxHeartbeats 4000000
/-! an own exception whose __init__ is super().__init__(x); self.f = x -/
namespace SPX
open PySem PySem.Spec PyProof.Rows L2 NdefX PySem.W

section
variable {prog : Program} {w : World} {A : Around} {E : Value → Shared → Prop} {h : Heap} {g : Array GenState} {d : Drawn} {t : Nat} {os : OsState}
variable {nm q : Str} {C N : Addr} {bs bm : List Value} {hdct : Bool} {sn : List Str} {sub : List Value} {ab : Bool} {col : Option Bool} {dd : Option Addr} {k0 k1 k2 k3 k5 : Option Value}
/-- the bound ValueError.__init__ called -/
theorem call_mw {u e t0 : Addr} {rest : List Value} {Q : Value → Shared → Prop}
    (hC : h.get? C = some (excClassObj nm q C N bs bm hdct sn sub ab col dd k0 k1 k2 k3 k5 "ValueError.__new__")) (he : h.get? e = some (HandSPX.excO C t0)) (hu : h.get? u = some (kxs_mw "ValueError.__init__" e)) (hrest : rest.length ≤ sizeLine)
    (hq : ∀ h' t1, (∀ b o, b ≠ e → h.get? b = some o → h'.get? b = some o) → h'.get? e = some (HandSPX.excO C t1) → Q .none ⟨h', g, d, t, os⟩) :
    wpAny (model prog w) A (call (.ref u) rest) Q E ⟨h, g, d, t, os⟩ := by
  refine wpAny_call (codeAny_of_tree ?_)
  show wpAny _ A.in1 (callAny (.ref u) ⟨rest, []⟩) _ _ _
  simp only [callAny]
  refine wpAny_bind (wpAny_load hu ?_)
  simp only [kxs_mw, show (Value.type "method-wrapper" == Value.type "method" || Value.type "method-wrapper" == Value.type "builtin_function_or_method" || Value.type "method-wrapper" == Value.type "method-wrapper") = true by decide, if_true]
  refine W.KFB.if_so (by decide) ?_
  refine wpAny_bind (check_bound_init F.excBase_ValueError.toExcCallFacts hC he rfl ?_)
  refine wpAny_bind (wpAny_pure (wpAny_pure ?_))
  refine ⟨plainId_quiet F.excBase_ValueError.init.plain _, codeAny_builtin F.excBase_ValueError.initEntry ?_⟩
  rw [Around.under_plainId F.excBase_ValueError.init.plain _]
  wp_walk
  refine hq _ h.objs.size (fun b o hb ho => ?_) ?_
  · rw [Heap.get?_update_other _ _ (Ne.symm hb)]
    exact Heap.get?_push_of_some _ ho
  · rw [Heap.get?_update_self _ (Heap.get?_push_of_some _ he) rfl]
    rfl
end

/-- what is known of such a class and its __init__ -/
structure SiC (P : Program) (K : PySem.W.Frag) (mg : Str → Option Value) (st : Stmt) (qual fld prm : Str) (D f : Addr) (fd : FuncData) : Prop where
  oex : OexC K D
  sc : NScope ["self", prm, "__class__"] ["self", prm] ["__class__"] (defScope st)
  sup : (defScope st).names.lookup ("super" : Str) = some .globalImplicit
  body : ∃ p0 p1 p2 p3 p4 p5 p6 p7 p8 p9, defBody st = [.Expr (.Call (.Attribute (.Call (.Name "super" p0) [] [] p1) "__init__" p2) [.Name prm p3] [] p4) p5, .Assign [.Attribute (.Name "self" p6) fld p7] (.Name prm p8) p9] ∧
    ∃ pl : Sem Bool, ∀ (L f cda cc : Addr), eval (.Call (.Attribute (.Call (.Name "super" p0) [] [] p1) "__init__" p2) [.Name prm p3] [] p4) (PySem.W.envX qual (defScope st) L f (.ref cda) [("__class__", cc)]) = (do
      let ov ← attributeBase (.Call (.Name "super" p0) [] [] p1) "__init__" (PySem.W.envX qual (defScope st) L f (.ref cda) [("__class__", cc)]) (eval (.Call (.Name "super" p0) [] [] p1) (PySem.W.envX qual (defScope st) L f (.ref cda) [("__class__", cc)]))
      standAt p2.atName
      let (f', first) ← holding [ov] (getMethod ov "__init__" pl)
      callWith p4 f' first (backTo p4 (starEach [.Name prm p3] (PySem.W.envX qual (defScope st) L f (.ref cda) [("__class__", cc)]))) [])
  head : ((defArgs st).posonlyargs ++ (defArgs st).args).head?.map (·.arg) = some "self"
  fdI : ∃ oc od osl kV doc pm an cda cc ct ccl cdd vs ccs file tf cl cld csl, fd = PySem.W.fnX "__init__" qual (defArgs st) (defBody st) (defScope st) [("__class__", cc)] .none kV doc pm an (.ref cda) ct ∧
    K.lookup f = some ⟨oc, od, .func fd, osl⟩ ∧ PySem.W.codeIn K (.ref cda) qual = true ∧ K.lookup cda = some ⟨ccl, cdd, .fields vs, ccs⟩ ∧ vs[2]? = some (.str file tf) ∧ ((P.main.file : Str) == file) = true ∧
    K.lookup cc = some ⟨cl, cld, .cell (some (.ref D)), csl⟩
  cls : (PySem.W.clsIn K D).isSome = true
  sub : PySem.W.mroIn K D (.ref D) = some true
  subV : PySem.W.subIn K (.ref D) (.type "ValueError") = some true
  top : (P.main.scope.names.lookup ("super" : Str)).isSome = false
  opq : PySem.W.nsIn K cStatics "thirdparty.any" = some none
  sin : PySem.W.ks_superIn K D D "__init__" = some (some (.builtin "ValueError.__init__"))
  nos : mg "super" = none
  hno : PySem.W.findIn K (.ref D) fld = some none
  nd : (prm == ("__debug__" : Str)) = false
  nc : (prm == ("__classdict__" : Str)) = false

def spSi (D : Addr) (fld : Str) : Sp := fun vs H Q _ => ∃ (a : Addr) (v : V), vs = [.ref a, v] ∧ H a = some (exo a D none) ∧ ∀ d, H d = none → d ≠ a → Q .non (upd (upd H d (exd d [(fld, v)])) a (exo a D (some d)))

section
variable {P : Program} {w : World} {K : PySem.W.Frag} {mg : Str → Option Value} {base : Heap} {CX : CXT}
theorem si_ok {st : Stmt} {qual fld prm : Str} {D f : Addr} {fd : FuncData} {k : Nat} (T : SiC P K mg st qual fld prm D f fd) : FnOk P w K mg base CX (k + 1) f fd ["self", prm] (spSi D fld) := by
  refine ⟨fun vs H Q E h => by obtain ⟨a, v, rfl, _⟩ := h; rfl, fun A outer s H args us vs Q E hr e0 hb r hsp => ?_⟩
  obtain ⟨a, v, rfl, ha, q⟩ := hsp
  obtain ⟨p0, p1, p2, p3, p4, p5, p6, p7, p8, p9, hbody, pl, hev⟩ := T.body
  obtain ⟨oc, od, osl, kV, doc, pm, an, cda, cc, ct, ccl, cdd, cvs, ccs, file, tf, cl, cld, csl, rfl, lk, hcd, hcode, hvs, hfile, hcell⟩ := T.fdI
  have KX : K.In s.heap := e0.mod.kin.keeps fun b o e => (e0.bs b o e).1
  have lim : s.heap.NoLimit := e0.mod.nolimit.keeps fun b o e => (e0.bs b o e).1
  have hlen : (["self", prm] : List Str).length = us.length := by rw [← r.length]; rfl
  have S := T.sc
  refine ks_codeAny_call_defAt (fd := PySem.W.fnX "__init__" qual (defArgs st) (defBody st) (defScope st) [("__class__", cc)] .none kV doc pm an (.ref cda) ct) (body := defBody st) (binds := (["self", prm] : List Str).zip us) hr.depth (KX _ _ lk) rfl lim (PySem.W.codeRec_of KX hcd) rfl hb S.nocell (fun ⟨n, _⟩ hy => S.par n (List.of_mem_zip hy).1) (fun h₁ hns kp => ?_) S.co S.gen S.kind
  let F : NF := ⟨"__init__", qual, defArgs st, defBody st, defScope st, [("__class__", cc)], cda⟩
  show _root_.PySem.wpAt (model P w) (A.deeper (envF F f s.heap.objs.size)) (.func (defBody st) (envF F f s.heap.objs.size)) (execs (defBody st) (envF F f s.heap.objs.size)) _ _ _
  have hbc := e0.bs cc _ (e0.mod.kin _ _ hcell)
  have C : CellsAt F.cl ["__class__"] [some (.ref D)] s.heap H := by
    have look : ∀ y c, F.cl.lookup y = some c → c = cc := fun y c e => by
      have e' : List.lookup y [(("__class__" : Str), cc)] = some c := e
      simp only [List.lookup] at e'
      split at e' <;> simp at e' <;> exact e'.symm
    refine ⟨rfl, fun y c e => ?_, fun x y c e1 e2 => ?_, fun i y e => ?_⟩
    · rw [look y c e]
      exact ⟨hbc.2, _, _, hbc.1, rfl⟩
    · have key : ∀ z, List.lookup z [(("__class__" : Str), cc)] = some c → z = ("__class__" : Str) := fun z e' => by
        simp only [List.lookup] at e'
        split at e'
        · rename_i hz
          exact beq_iff_eq.mp hz
        · cases e'
      rw [key x e1, key y e2]
    · cases i with
      | zero =>
        simp at e
        subst e
        refine ⟨cc, by show List.lookup ("__class__" : Str) [(("__class__" : Str), cc)] = some cc; simp [List.lookup], fun v' hv' => ?_⟩
        simp at hv'
        subst hv'
        exact ⟨.ref D, rfl, _, hbc.1, rfl⟩
      | succ i => simp at e
  have I : Inv (ncx CX P w K mg base ["self", prm, "__class__"] F f A outer s H E) [] (startF ["self", prm, "__class__"] [.ref a, v] [some (.ref D)]) H { s with heap := h₁, toks := s.toks + ((["self", prm] : List Str).zip us).length } :=
    inv_startN S hr.hd e0 rfl r C hns kp
  generalize hs1 : ({ s with heap := h₁, toks := s.toks + ((["self", prm] : List Str).zip us).length } : Shared) = s1 at I ⊢
  have kloc : ∀ x ∈ (["self", prm] : List Str), (defScope st).names.lookup x = some .local := S.par
  have vis0 : Vis (ncx CX P w K mg base ["self", prm, "__class__"] F f A outer s H E).env.scope "self" := .inl (kloc "self" (by simp))
  have vis1 : Vis (ncx CX P w K mg base ["self", prm, "__class__"] F f A outer s H E).env.scope prm := .inl (kloc prm (by simp))
  have hσ : startF ["self", prm, "__class__"] [.ref a, v] [some (.ref D)] = [some (.ref a), some v, some (.ref D)] := rfl
  rw [hσ] at I
  have h0 : (ncx CX P w K mg base ["self", prm, "__class__"] F f A outer s H E).N[0]? = some ("self" : Str) := rfl
  have h1 : (ncx CX P w K mg base ["self", prm, "__class__"] F f A outer s H E).N[1]? = some prm := rfl
  obtain ⟨ar, har, hself⟩ : ∃ ar, ((defArgs st).posonlyargs ++ (defArgs st).args).head? = some ar ∧ ar.arg = ("self" : Str) := by
    have z := T.head
    cases e : ((defArgs st).posonlyargs ++ (defArgs st).args).head? with
    | none => rw [e] at z; cases z
    | some ar => rw [e] at z; exact ⟨ar, rfl, Option.some.inj z⟩
  obtain ⟨cdD, hclsD⟩ := Option.isSome_iff_exists.mp T.cls
  obtain ⟨nm, qn, Nn, bs, bm, sn, sub, ab, col, dd, k0, k1, k2, k3, k5, hC0, hbm⟩ := T.oex.cls
  have hkc : (envF F f s.heap.objs.size).kindOf "__class__" = some .free := S.frk "__class__" (by simp)
  have hcl1 : (envF F f s.heap.objs.size).cells.lookup ("__class__" : Str) = some cc := by show List.lookup ("__class__" : Str) [(("__class__" : Str), cc)] = some cc; simp [List.lookup]
  have I0 := I
  clear hs1
  obtain ⟨hh, g, dr, tk, os1⟩ := s1
  obtain ⟨oD, hD1, hD2⟩ : ∃ oD, hh.get? D = some oD ∧ oD.data = .cls cdD := by
    unfold PySem.W.clsIn at hclsD
    split at hclsD
    · rename_i c d cd' sl ho
      cases hclsD
      exact ⟨_, I.kIn _ _ ho, rfl⟩
    · cases hclsD
  rw [show execs (defBody st) (envF F f s.heap.objs.size) = execs [.Expr (.Call (.Attribute (.Call (.Name "super" p0) [] [] p1) "__init__" p2) [.Name prm p3] [] p4) p5, .Assign [.Attribute (.Name "self" p6) fld p7] (.Name prm p8) p9] (envF F f s.heap.objs.size) from by rw [hbody]]
  have hint : interactive (envF F f s.heap.objs.size) = false := by
    unfold interactive
    rw [show (envF F f s.heap.objs.size).scope.kind = .function from S.kind]
    rfl
  refine ks_wpAt_execs_cons (ks_wpAt_Expr_any (ks_wpAt_MethodCall (pl := pl) ?_ (hev _ _ _ _)) (hi := hint))
  refine ks_wpAt_super_base (fd := PySem.W.fnX "__init__" qual (defArgs st) (defBody st) (defScope st) [("__class__", cc)] .none kV doc pm an (.ref cda) ct) (ar := ar) T.sup hkc (by decide) rfl (I.kIn _ _ lk) rfl har rfl (I.kIn _ _ hcode) rfl hvs hfile T.top ?_
  obtain ⟨mb, hb1, hb2⟩ := I.mod.blt
  refine ks_loadName_global S.kind T.sup (Calls.loadGlobal_builtin (I.mod.glob.keeps I.bk) T.nos (hb1.keeps I.bk) ((hb2 "super" (by decide)).trans (by decide +kernel)) ⟨rfl, ?_⟩)
  refine wpAny_loadName_free S.kind hkc hcl1 ⟨_, I.kIn _ _ hcell, rfl⟩ ?_
  obtain ⟨m, hn, hl⟩ := I.loc
  obtain ⟨u0, ru0, lk0⟩ := hl 0 "self" (.ref a) h0 rfl vis0
  obtain rfl : u0 = Value.ref a := ru0
  have hm0 : m "self" = some (.ref a) := by
    rcases lk0 with ⟨_, e⟩ | ⟨kk, _⟩
    · exact e
    · have kk : (defScope st).names.lookup ("self" : Str) = some .cell ∨ (defScope st).names.lookup ("self" : Str) = some .free := kk
      rw [kloc "self" (by simp)] at kk
      rcases kk with kk | kk <;> cases kk
  rw [hself]
  refine wpAny_loadName_local S.kind (kloc "self" (by simp)) hn hm0 ?_
  refine ks_wpAny_isType_cls hD1 hD2 ⟨rfl, ?_⟩
  obtain ⟨t1, hx⟩ := exo_at I.hok ha
  refine ks_wpAny_call_super hD1 hD2 hx rfl (fun c e => nomatch e) (PySem.W.looks_mroIn I.kIn T.sub) (fun h' e k => ?_)
  have I2 : Inv (ncx CX P w K mg base ["self", prm, "__class__"] F f A outer s H E) [] [some (.ref a), some v, some (.ref D)] H ⟨h', g, dr, tk, os1⟩ := I.kept (h' := h') (t' := tk) k
  have hx2 : h'.get? a = some ({ cls := .ref D, dict := none, data := .fields #[.ref t1, .none, .none, .none, .bool false, .none] } : Obj) := k _ _ hx
  have IA : PySem.W.InstAt h' a ({ cls := .ref D, dict := none, data := .fields #[.ref t1, .none, .none, .none, .bool false, .none] } : Obj) D none := ⟨hx2, rfl, rfl, trivial⟩
  have hsin := T.sin
  unfold PySem.W.ks_superIn at hsin
  rw [hclsD] at hsin
  refine kxs_getMethod kxs_ValueError e (looks_opaque I2.kIn T.opq) (l₀ := cdD.mro) (fun A Q E s k q => wpAny_bind ((PySem.W.looks_clsIn I2.kIn hclsD) A _ E s k (wpAny_pure q))) rfl I2.kIn hsin (IA.type.andThen (PySem.W.looks_subIn I2.kIn T.subV)) (PySem.W.ks_ne I2.kIn IA hclsD) (by decide) ?_
  have kp3 : ∀ b u, h'.get? b = some u → (h'.push (kxs_mw "ValueError.__init__" a)).get? b = some u := fun b u z => Heap.get?_push_of_some _ z
  have I3 : Inv (ncx CX P w K mg base ["self", prm, "__class__"] F f A outer s H E) [] [some (.ref a), some v, some (.ref D)] H ⟨h'.push (kxs_mw "ValueError.__init__" a), g, dr, tk + 1, os1⟩ := I2.kept (h' := h'.push (kxs_mw "ValueError.__init__" a)) (t' := tk + 1) kp3
  have hu3 : (h'.push (kxs_mw "ValueError.__init__" a)).get? h'.objs.size = some (kxs_mw "ValueError.__init__" a) := Heap.get?_push_at rfl rfl
  have I3p : Inv (ncx CX P w K mg base ["self", prm, "__class__"] F f A outer s H E) [(h'.objs.size, kxs_mw "ValueError.__init__" a)] [some (.ref a), some v, some (.ref D)] H ⟨h'.push (kxs_mw "ValueError.__init__" a), g, dr, tk + 1, os1⟩ :=
    I3.pins_of fun p hp => by
      obtain rfl := List.mem_singleton.mp hp
      exact ⟨hu3, I2.hok.fresh (Nat.le_refl _), Nat.ne_of_gt I2.lt, I2.nofs (Nat.le_refl _), fun v z => nomatch z⟩
  show wpAny _ _ (callWith p4 (.ref h'.objs.size) [] (backTo p4 (starEach [.Name prm p3] (envF F f s.heap.objs.size))) []) _ _ _
  rw [show starEach [Expr.Name prm p3] (envF F f s.heap.objs.size) = (false, eval (.Name prm p3) (envF F f s.heap.objs.size)) :: starEach [] (envF F f s.heap.objs.size) from rfl]
  refine PySem.W.kxs_callWith (i := "ValueError.__init__") (x := a) rfl ?_
  refine Calls.evalArgs_plain ?_
  refine thn ((pa_cons (X := ncx CX P w K mg base ["self", prm, "__class__"] F f A outer s H E) (pe_var h1 vis1 T.nd T.nc) pa_nil).run p4 _ _ _ _ (fun vs H2 => vs = [v] ∧ H2 = H) I3p ⟨v, rfl, rfl, rfl⟩) fun us2 s2 hh2 => ?_
  obtain ⟨vs2, H2, I4, r4, rfl, rfl⟩ := hh2
  obtain ⟨hu4, _⟩ := I4.pin (h'.objs.size, kxs_mw "ValueError.__init__" a) (List.mem_append_right _ (List.mem_singleton.mpr rfl))
  refine ⟨hu4, ?_⟩
  obtain ⟨t4, hx4⟩ := exo_at I4.hok ha
  obtain ⟨hh4, g4, dr4, tk4, os4⟩ := s2
  have hl4 : us2.length ≤ sizeLine := by
    rw [← r4.length, sizeLine_eq]
    show 1 ≤ _
    omega
  refine call_mw (I4.kIn _ _ hC0) hx4 hu4 hl4 fun h5 t5 k5 hx5 => ?_
  have J := I4.write (t' := tk4) (x := a) (e := a) (o := exo a D none) (by rw [ha]; exact True.intro) (.inl rfl) k5 ⟨_, hx5⟩ (exo_ok hx5)
  have eu : upd H2 a (exo a D none) = H2 := by
    funext b
    by_cases hb : b = a
    · rw [hb, upd_same, ha]
    · rw [upd_ne hb]
  rw [eu] at J
  have J0 := J.pins_of (pins' := []) fun p hp => absurd hp (by simp)
  show _root_.PySem.wpAt _ _ _ (execs [.Assign [.Attribute (.Name "self" p6) fld p7] (.Name prm p8) p9] (envF F f s.heap.objs.size)) _ _ _
  refine _root_.PySem.wpAt_of_wpAny ?_
  refine wpAny_mono ((pss_one (ps_ost (X := ncx CX P w K mg base ["self", prm, "__class__"] F f A outer s H2 E) (f := fld) (pe_var h0 vis0) (pe_var h1 vis1 T.nd T.nc))).run [] _ _ _ { nx := fun _ H' => Q .non H', rt := Q } J0 ⟨v, rfl, .ref a, rfl, a, D, rfl, T.oex, T.hno, .inl ⟨ha, fun dx n ne => q dx n ne⟩⟩) (fun fl s' hs => ?_) fun e s' hs => hs
  cases fl with
  | ret u =>
    obtain ⟨v', σ', H', J', rv, q'⟩ := hs
    exact ⟨v', H', J'.os, J'.bare, J'.base, J'.hok, rv, q'⟩
  | next =>
    obtain ⟨σ', H', J', q'⟩ := hs
    exact ⟨V.non, H', J'.os, J'.bare, J'.base, J'.hok, rfl, q'⟩
  | brk =>
    obtain ⟨_, _, _, q'⟩ := hs
    exact False.elim q'
  | cont =>
    obtain ⟨_, _, _, q'⟩ := hs
    exact False.elim q'
end

/-! ### exceptions held as values -/
/-- isinstance(e, c), e an exception that the heap tracks -/
def rIsO (K : PySem.W.Frag) : List V → Hp → VK → Prop := fun xs H Q => ∃ (a D : Addr) (d : Option Addr) (c : V) (cv : Value) (b : Bool), xs = [.ref a, c] ∧ H a = some (exo a D d) ∧ (∀ dx, d = some dx → ∃ fs, H dx = some (exd dx fs)) ∧ ExcC K D ∧ ClsV c cv ∧ PySem.W.kitOne K (.ref D) cv = some b ∧ Q (.bl b) H
/-- X(), an own exception class without own __init__ -/
def tExo0 (C : Addr) : TE := fun _ H Q => ∀ a, H a = none → Q (.ref a) (upd H a (exo a C none))
section
variable {X : Cx} {CX : CXT} {C f : Addr} {x n : Str} {e : Expr} {es : List Expr} {te : TE} {ta : TA} {p pos : Pos} {sp : Sp} {dvs : List V} {ds : List Value} {k : Nat} {fd : FuncData} {ps : List Str}
/-- X(e, ..), its own __init__ keeping sp, as a value -/
def tMkV (C : Addr) (sp : Sp) (dvs : List V) (ta : TA) : TE := fun σ H Q => ta σ H fun vs H1 => vs.length ≤ 1000 ∧ ∀ a, H1 a = none → sp (.ref a :: (vs ++ dvs)) (upd H1 a (exo a C none)) (fun v H2 => v = .non ∧ Q (.ref a) H2) (fun _ _ _ => False)
/-- e.n, e such an exception with its dict -/
def tXo (K : PySem.W.Frag) (n : Str) (te : TE) : TE := fun σ H Q => te σ H fun x H1 => ∃ (a C dx : Addr) (fs : List (Str × V)) (v : V), x = .ref a ∧ H1 a = some (exo a C (some dx)) ∧ H1 dx = some (exd dx fs) ∧ ExcC K C ∧ PySem.W.findIn K (.ref C) n = some none ∧ fs.lookup n = some v ∧ Q v H1
end
/-! reading lemmas -/
/-- an exception of class D lies at a -/
def ExA (K : PySem.W.Frag) (H : Hp) (a D : Addr) : Prop := ∃ d, H a = some (exo a D d) ∧ (∀ dx, d = some dx → ∃ fs, H dx = some (exd dx fs)) ∧ ExcC K D
/-- one with a single field -/
def ExF (H : Hp) (a D : Addr) (fld : Str) (v : V) : Prop := ∃ d, H a = some (exo a D (some d)) ∧ H d = some (exd d [(fld, v)])
theorem ExA.same {K : PySem.W.Frag} {H H' : Hp} {a D : Addr} (s : Same H H') (h : ExA K H a D) : ExA K H' a D := by
  obtain ⟨d, h1, h2, h3⟩ := h
  exact ⟨d, s _ _ h1, fun dx e => (h2 dx e).imp fun fs h => s _ _ h, h3⟩
theorem ExF.same {H H' : Hp} {a D : Addr} {fld : Str} {v : V} (s : Same H H') (h : ExF H a D fld v) : ExF H' a D fld v := by
  obtain ⟨d, h1, h2⟩ := h
  exact ⟨d, s _ _ h1, s _ _ h2⟩
end SPX

/-! the head's facts by names: defs, classes, own exceptions with super().__init__ -/
namespace HX
open PySem PySem.Spec PyProof.Rows L2 He NdefX
abbrev FnS : Type := Option (Str × Str × Arguments × FuncBody × Scope × Addr × Addr)
def fnS (K : PySem.W.Frag) (p : Str × Option Str) : FnS := match K.lookup (fAd K p) with
  | some ⟨_, _, .func fd, _⟩ => some (fd.name, fd.qualname, fd.params, fd.body, fd.scope, fd.globals, fd.builtins)
  | _ => none
structure DefS where
  at_ : Str × Option Str
  name : Str
  qual : Str
  st : Stmt
def DefS.val (d : DefS) : FnS := some (d.name, d.qual, defArgs d.st, .stmts (defBody d.st), defScope d.st, mainGlobals, builtinsNs)
/-- a plain def of no default -/
def plB (K : PySem.W.Frag) (p : Str × Option Str) (qual : Str) : Bool := PySem.W.keepIn K (.ref (fAd K p)) && (match K.lookup (fAd K p) with
  | some ⟨_, _, .func fd, _⟩ => PySem.W.codeIn K fd.code qual && (decide (fd.defaults = .none) && fd.closure.isEmpty)
  | _ => false)
/-- a def that holds its own class -/
def spB (K : PySem.W.Frag) (p : Str × Option Str) (qual file : Str) (C : Addr) : Bool := (match K.lookup (fAd K p) with
  | some ⟨_, _, .func fd, _⟩ => (match fd.closure with
    | [(y, cc)] => (match fd.code with
      | .ref cda => decide (y = ("__class__" : Str)) && (decide (fd.defaults = .none) && (PySem.W.codeIn K (.ref cda) qual && ((match K.lookup cda with
          | some ⟨_, _, .fields vs, _⟩ => (match (vs[2]? : Option Value) with
            | some (Value.str fl _) => decide (fl = file)
            | _ => false)
          | _ => false) && (match K.lookup cc with
          | some ⟨_, _, .cell (some (.ref D)), _⟩ => decide (D = C)
          | _ => false))))
      | _ => false)
    | _ => false)
  | _ => false)
theorem plB_ok {K : PySem.W.Frag} {d : DefS} (e : fnS K d.at_ = d.val) (c : plB K d.at_ d.qual = true) : ∃ fd, Fun K d.name d.qual d.st (fAd K d.at_) fd := by
  obtain ⟨kp, c2⟩ := ba c
  unfold fnS at e
  cases q : K.lookup (fAd K d.at_) with
  | none =>
    rw [q] at c2
    cases c2
  | some o =>
    obtain ⟨oc, od, dt, osl⟩ := o
    rw [q] at c2 e
    cases dt with
    | func fd =>
      obtain ⟨n1, n2, n3, n4, n5, n6, n7, n8, n9, n10, n11, n12, n13, n14, n15⟩ := fd
      have e2 : (some (n1, n2, n3, n4, n5, n6, n15) : FnS) = some (d.name, d.qual, defArgs d.st, .stmts (defBody d.st), defScope d.st, mainGlobals, builtinsNs) := e
      simp only [Option.some.injEq, Prod.mk.injEq] at e2
      obtain ⟨h1, h2, h3, h4, h5, h6, h7⟩ := e2
      subst h1 h2 h3 h4 h5 h6 h7
      have c3 : (PySem.W.codeIn K n13 d.qual && (decide (n8 = .none) && n7.isEmpty)) = true := c2
      obtain ⟨k1, k2⟩ := ba c3
      obtain ⟨k3, k4⟩ := ba k2
      have k3 := of_decide_eq_true k3
      subst k3
      have k4 : n7 = [] := List.isEmpty_iff.mp k4
      subst k4
      exact ⟨_, ⟨oc, od, n9, n10, n11, n12, n13, n14, osl, rfl, q, k1⟩, kp⟩
    | _ => cases c2
theorem spB_ok {K : PySem.W.Frag} {d : DefS} {file : Str} {C : Addr} (e : fnS K d.at_ = d.val) (c : spB K d.at_ d.qual file C = true) :
    ∃ fd oc od osl kV doc pm an cda cc ct ccl cdd vs ccs tf cl cld csl, fd = PySem.W.fnX d.name d.qual (defArgs d.st) (defBody d.st) (defScope d.st) [("__class__", cc)] .none kV doc pm an (.ref cda) ct ∧
    K.lookup (fAd K d.at_) = some ⟨oc, od, .func fd, osl⟩ ∧ PySem.W.codeIn K (.ref cda) d.qual = true ∧ K.lookup cda = some ⟨ccl, cdd, .fields vs, ccs⟩ ∧ vs[2]? = some (.str file tf) ∧
    K.lookup cc = some ⟨cl, cld, .cell (some (.ref C)), csl⟩ := by
  unfold fnS at e
  unfold spB at c
  cases q : K.lookup (fAd K d.at_) with
  | none =>
    rw [q] at c
    cases c
  | some o =>
    obtain ⟨oc, od, dt, osl⟩ := o
    rw [q] at c e
    cases dt with
    | func fd =>
      obtain ⟨n1, n2, n3, n4, n5, n6, n7, n8, n9, n10, n11, n12, n13, n14, n15⟩ := fd
      have e2 : (some (n1, n2, n3, n4, n5, n6, n15) : FnS) = some (d.name, d.qual, defArgs d.st, .stmts (defBody d.st), defScope d.st, mainGlobals, builtinsNs) := e
      simp only [Option.some.injEq, Prod.mk.injEq] at e2
      obtain ⟨h1, h2, h3, h4, h5, h6, h7⟩ := e2
      subst h1 h2 h3 h4 h5 h6 h7
      dsimp only at c
      cases n7 with
      | nil => cases c
      | cons hd tl =>
        obtain ⟨y, cc⟩ := hd
        cases tl with
        | cons _ _ => cases c
        | nil =>
          cases n13 with
          | ref cda =>
            obtain ⟨k1, c⟩ := ba c
            obtain ⟨k2, c⟩ := ba c
            obtain ⟨k3, c⟩ := ba c
            obtain ⟨k4, k5⟩ := ba c
            have k1 := of_decide_eq_true k1
            subst k1
            have k2 := of_decide_eq_true k2
            subst k2
            cases q1 : K.lookup cda with
            | none =>
              rw [q1] at k4
              cases k4
            | some o1 =>
              obtain ⟨ccl, cdd, dt1, ccs⟩ := o1
              rw [q1] at k4
              cases dt1 with
              | fields vs =>
                dsimp only at k4
                cases q2 : vs[2]? with
                | none =>
                  rw [q2] at k4
                  cases k4
                | some v =>
                  rw [q2] at k4
                  cases v with
                  | str fl tf =>
                    have k4 := of_decide_eq_true k4
                    subst k4
                    cases q3 : K.lookup cc with
                    | none =>
                      rw [q3] at k5
                      cases k5
                    | some o2 =>
                      obtain ⟨cl, cld, dt2, csl⟩ := o2
                      rw [q3] at k5
                      cases dt2 with
                      | cell ov =>
                        cases ov with
                        | none => cases k5
                        | some v =>
                          cases v with
                          | ref D =>
                            have k5 := of_decide_eq_true k5
                            subst k5
                            exact ⟨_, oc, od, osl, n9, n10, n11, n12, cda, cc, n14, ccl, cdd, vs, ccs, tf, cl, cld, csl, rfl, rfl, k3, q1, q2, q3⟩
                          | _ => cases k5
                      | _ => cases k5
                  | _ => cases k4
              | _ => cases k4
          | _ => cases c
    | _ => cases c
/-! own exception classes -/
def oexB (K : PySem.W.Frag) (C : Addr) : Bool := (match K.lookup C with
  | some ⟨.type c, _, .cls cd, sl⟩ => decide (c = "type") && ((match cd.mro with
      | .ref C' :: bm => decide (C' = C) && PySem.HandSPX.refsVE bm
      | _ => false) && ((match sl with
      | ⟨[_, _, _, _, some (.builtin n), _]⟩ => decide (n = "ValueError.__new__")
      | _ => false) && (cd.hasDict && !cd.hasDel)))
  | _ => false) && (eqO (PySem.W.findIn K (.ref C) "__setattr__") (some (some (.builtin "object.__setattr__"))) && (decide (PySem.W.subIn K (.ref C) (.type "BaseException") = some true) && (decide (PySem.W.typeIn K (.ref C) = some (.type "type")) && PySem.W.keepIn K (.ref C))))
theorem oexB_ok {K : PySem.W.Frag} {C : Addr} (h : oexB K C = true) : OexC K C := by
  obtain ⟨c, h⟩ := ba h
  obtain ⟨h1, h⟩ := ba h
  obtain ⟨h2, h⟩ := ba h
  obtain ⟨h3, h4⟩ := ba h
  refine ⟨?_, eqO_ok h1, of_decide_eq_true h2, of_decide_eq_true h3, h4⟩
  cases q : K.lookup C with
  | none =>
    rw [q] at c
    cases c
  | some o =>
    obtain ⟨oc, od, dt, sl⟩ := o
    rw [q] at c
    cases oc with
    | type t =>
      cases dt with
      | cls cd =>
        obtain ⟨e1, c⟩ := ba c
        obtain ⟨e2, c⟩ := ba c
        obtain ⟨e3, c⟩ := ba c
        obtain ⟨e4, e5⟩ := ba c
        have e1 := of_decide_eq_true e1
        subst e1
        obtain ⟨nm, bs, mro, ns, qn, hdct, sn, sub, ab, col, dl⟩ := cd
        dsimp only at e2 e3 e4 e5
        cases mro with
        | nil => cases e2
        | cons m bm =>
          cases m with
          | ref C' =>
            obtain ⟨e2, e6⟩ := ba e2
            have e2 := of_decide_eq_true e2
            subst e2
            have e4 : hdct = true := e4
            subst e4
            have e5 : dl = false := by
              cases dl with
              | true => cases e5
              | false => rfl
            subst e5
            split at e3
            · have e3 := of_decide_eq_true e3
              subst e3
              exact ⟨nm, qn, ns, bs, bm, sn, sub, ab, col, od, _, _, _, _, _, rfl, e6⟩
            · cases e3
          | _ => cases e2
      | _ => cases c
    | _ => cases dt <;> cases c
def excB (K : PySem.W.Frag) (D : Addr) : Bool := eqO (PySem.W.findIn K (.ref D) "__getattribute__") (some (some (.builtin "BaseException.__getattribute__"))) && (eqO (PySem.W.findIn K (.ref D) "__getattr__") (some none) && (decide (PySem.W.subIn K (.ref D) (.type "BaseException") = some true) && (PySem.W.hasDictIn K D &&
  (eqO (PySem.W.findIn K (.ref D) "__class__") (some (some (.builtin "object.__class__"))) && (eqO (PySem.W.specialIn K (.builtin "object.__class__") "__get__") (some (some (.builtin "getset_descriptor.__get__"))) && (decide (PySem.W.takesIn K (.builtin "object.__class__") = some true) && decide (PySem.W.mroIn K D (.type "object") = some true)))))))
theorem excB_ok {K : PySem.W.Frag} {D : Addr} (h : excB K D = true) : L2.ExcC K D := by
  obtain ⟨h1, h⟩ := ba h
  obtain ⟨h2, h⟩ := ba h
  obtain ⟨h3, h⟩ := ba h
  obtain ⟨h4, h⟩ := ba h
  obtain ⟨h5, h⟩ := ba h
  obtain ⟨h6, h⟩ := ba h
  obtain ⟨h7, h8⟩ := ba h
  exact ⟨eqO_ok h1, eqO_ok h2, of_decide_eq_true h3, h4, eqO_ok h5, eqO_ok h6, of_decide_eq_true h7, of_decide_eq_true h8⟩
/-- what super().__init__ asks -/
def sicB (K : PySem.W.Frag) (D : Addr) (fld : Str) : Bool := (PySem.W.clsIn K D).isSome && (decide (PySem.W.mroIn K D (.ref D) = some true) && (decide (PySem.W.subIn K (.ref D) (.type "ValueError") = some true) && (eqO (PySem.W.nsIn K cStatics "thirdparty.any") (some none) &&
  (eqO (PySem.W.ks_superIn K D D "__init__") (some (some (.builtin "ValueError.__init__"))) && eqO (PySem.W.findIn K (.ref D) fld) (some none)))))
/-- the text's part -/
structure SiT (P : Program) (st : Stmt) (qual fld prm : Str) : Prop where
  sc : NScope ["self", prm, "__class__"] ["self", prm] ["__class__"] (defScope st)
  sup : (defScope st).names.lookup ("super" : Str) = some .globalImplicit
  body : ∃ p0 p1 p2 p3 p4 p5 p6 p7 p8 p9, defBody st = [.Expr (.Call (.Attribute (.Call (.Name "super" p0) [] [] p1) "__init__" p2) [.Name prm p3] [] p4) p5, .Assign [.Attribute (.Name "self" p6) fld p7] (.Name prm p8) p9] ∧
    ∃ pl : Sem Bool, ∀ (L f cda cc : Addr), eval (.Call (.Attribute (.Call (.Name "super" p0) [] [] p1) "__init__" p2) [.Name prm p3] [] p4) (PySem.W.envX qual (defScope st) L f (.ref cda) [("__class__", cc)]) = (do
      let ov ← attributeBase (.Call (.Name "super" p0) [] [] p1) "__init__" (PySem.W.envX qual (defScope st) L f (.ref cda) [("__class__", cc)]) (eval (.Call (.Name "super" p0) [] [] p1) (PySem.W.envX qual (defScope st) L f (.ref cda) [("__class__", cc)]))
      standAt p2.atName
      let (f', first) ← holding [ov] (getMethod ov "__init__" pl)
      callWith p4 f' first (backTo p4 (starEach [.Name prm p3] (PySem.W.envX qual (defScope st) L f (.ref cda) [("__class__", cc)]))) [])
  head : ((defArgs st).posonlyargs ++ (defArgs st).args).head?.map (·.arg) = some "self"
  nd : (prm == ("__debug__" : Str)) = false
  nc : (prm == ("__classdict__" : Str)) = false
  top : (P.main.scope.names.lookup ("super" : Str)).isSome = false
theorem sic_ok {P : Program} {K : PySem.W.Frag} {mg : Str → Option Value} {st : Stmt} {x qual fld prm : Str} {D : Addr} (S : SiT P st qual fld prm) (h1 : oexB K D = true) (h2 : sicB K D fld = true) (h3 : spB K (x, some "__init__") qual P.main.file D = true)
    (e : fnS K (x, some "__init__") = (DefS.mk (x, some "__init__") "__init__" qual st).val) (hs : mg "super" = none) (hb : ∀ kV doc pm an cv ct cl (us : List Value), us.length = 2 → bindArgs (PySem.W.fnX "__init__" qual (defArgs st) (defBody st) (defScope st) cl .none kV doc pm an cv ct) ⟨us, []⟩ = pure ((["self", prm] : List Str).zip us)) :
    ∃ fd, SPX.SiC P K mg st qual fld prm D (fAd K (x, some "__init__")) fd ∧ Binds K fd ["self", prm] [] := by
  obtain ⟨k1, h⟩ := ba h2
  obtain ⟨k2, h⟩ := ba h
  obtain ⟨k3, h⟩ := ba h
  obtain ⟨k4, h⟩ := ba h
  obtain ⟨k5, k6⟩ := ba h
  obtain ⟨fd, oc, od, osl, kV, doc, pm, an, cda, cc, ct, ccl, cdd, vs, ccs, tf, cl, cld, csl, e1, e2, e3, e4, e5, e6⟩ := spB_ok (d := ⟨(x, some "__init__"), "__init__", qual, st⟩) e h3
  refine ⟨fd, ⟨oexB_ok h1, S.sc, S.sup, S.body, S.head, ?_, k1, of_decide_eq_true k2, of_decide_eq_true k3, S.top, eqO_ok k4, eqO_ok k5, hs, eqO_ok k6, S.nd, S.nc⟩, .all fun us hl => by rw [e1]; exact hb _ _ _ _ _ _ _ us hl⟩
  exact ⟨oc, od, osl, kV, doc, pm, an, cda, cc, ct, ccl, cdd, vs, ccs, P.main.file, tf, cl, cld, csl, e1, e2, e3, e4, e5, beq_self_eq_true _, e6⟩
/-! ### the Hook -/
abbrev AlX : Type := Bool × List FnS
def obsX (ck : List (PySem.W.Frag → Bool)) (fn : List DefS) (K : PySem.W.Frag) : AlX := (ck.all fun f => f K, fn.map fun d => fnS K d.at_)
def valX (fn : List DefS) : AlX := (true, fn.map DefS.val)
def SaysX (ck : List (PySem.W.Frag → Bool)) (fn : List DefS) (K : PySem.W.Frag) : Prop := obsX ck fn K = valX fn
def obsXG (n : Nat) (ck : List (PySem.W.Frag → Bool)) (fn : List DefS) (g : Addr → Option Obj) : AlX := obsX ck fn (frG g (cStatics :: asD g n))
def hookX (n : Nat) (ck : List (PySem.W.Frag → Bool)) (fn : List DefS) : PySem.W.Hook where
  α := AlX
  obs := fun s => obsXG n ck fn s.heap.get?
  val := fun _ => valX fn
  says := fun _ h => ∃ K : PySem.W.Frag, K.In h ∧ SaysX ck fn K
  of := fun _ _ e => ⟨_, frG_in, e⟩
  keeps := fun _ _ _ ⟨K, hK, c⟩ k => ⟨K, PySem.W.Frag.In.keeps hK k, c⟩
section
variable {ck : List (PySem.W.Frag → Bool)} {fn : List DefS} {K : PySem.W.Frag}
theorem SaysX.fact (c : SaysX ck fn K) (i : Nat) {f : PySem.W.Frag → Bool} (h : ck[i]? = some f := by rfl) : f K = true := by
  have c1 : (ck.all fun f => f K) = true := congrArg (fun z : AlX => z.1) c
  exact List.all_eq_true.mp c1 f (List.mem_of_getElem? h)
theorem SaysX.fn_ (c : SaysX ck fn K) (i : Nat) {d : DefS} (h : fn[i]? = some d := by rfl) : fnS K d.at_ = d.val := by
  have e : fn.map (fun d => fnS K d.at_) = fn.map DefS.val := congrArg (fun z : AlX => z.2) c
  have e2 : (fn.map fun d => fnS K d.at_)[i]? = (fn.map DefS.val)[i]? := by rw [e]
  rw [List.getElem?_map, List.getElem?_map, h] at e2
  exact Option.some.inj e2
end
end HX

/-! HX with tables of code objects: the defs tf make lambdas -/
namespace HXT
open PySem PySem.Spec PyProof.Rows L2 He LamX
structure SaysXT (ck : List (PySem.W.Frag → Bool)) (fn : List HX.DefS) (tf : List Defn) (h : Heap) (K : PySem.W.Frag) : Prop where
  c : HX.SaysX ck fn K
  hd : ∀ p ∈ tf, PySem.W.codeHdIn K (cT K p).1 (cT K p).2 = true
  out : ∀ p ∈ tf, K.lookup (cT K p).2 = none
  empty : ∀ p ∈ tf, h.get? (cT K p).2 = some { cls := .none, data := .fields #[] }
abbrev AlXT : Type := HX.AlX × Bool
def obsXT (n : Nat) (ck : List (PySem.W.Frag → Bool)) (fn : List HX.DefS) (tf : List Defn) (g : Addr → Option Obj) : AlXT := (HX.obsX ck fn (frT g (cStatics :: asD g n)), tabsB g tf (frT g (cStatics :: asD g n)))
def valXT (fn : List HX.DefS) : AlXT := (HX.valX fn, true)
theorem saysXT_of {n : Nat} {ck : List (PySem.W.Frag → Bool)} {fn : List HX.DefS} {tf : List Defn} {h : Heap} (e : obsXT n ck fn tf h.get? = valXT fn) : SaysXT ck fn tf h (frT h.get? (cStatics :: asD h.get? n)) := by
  have e1 : HX.obsX ck fn (frT h.get? (cStatics :: asD h.get? n)) = HX.valX fn := congrArg (fun z : AlXT => z.1) e
  have e2 : tabsB h.get? tf (frT h.get? (cStatics :: asD h.get? n)) = true := congrArg (fun z : AlXT => z.2) e
  have key : ∀ p ∈ tf, PySem.W.codeHdIn (frT h.get? (cStatics :: asD h.get? n)) (cT (frT h.get? (cStatics :: asD h.get? n)) p).1 (cT (frT h.get? (cStatics :: asD h.get? n)) p).2 = true ∧ ∃ o, h.get? (cT (frT h.get? (cStatics :: asD h.get? n)) p).2 = some o ∧ emptyTab o = true := fun p hp => by
    obtain ⟨h3, h4⟩ := ba (List.all_eq_true.mp e2 p hp)
    refine ⟨h3, ?_⟩
    cases q : h.get? (cT (frT h.get? (cStatics :: asD h.get? n)) p).2 with
    | none =>
      rw [q] at h4
      cases h4
    | some o =>
      rw [q] at h4
      exact ⟨o, rfl, h4⟩
  exact ⟨e1, fun p hp => (key p hp).1, fun p hp => by
    obtain ⟨_, o, q, z⟩ := key p hp
    exact frT_none q z, fun p hp => by
    obtain ⟨_, o, q, z⟩ := key p hp
    rw [q, emptyTab_eq z]⟩
def hookXT (n : Nat) (ck : List (PySem.W.Frag → Bool)) (fn : List HX.DefS) (tf : List Defn) : PySem.W.Hook where
  α := AlXT
  obs := fun s => obsXT n ck fn tf s.heap.get?
  val := fun _ => valXT fn
  says := fun _ h => ∃ K : PySem.W.Frag, K.In h ∧ SaysXT ck fn tf h K
  of := fun _ _ e => ⟨_, frT_in, saysXT_of e⟩
  keeps := fun _ _ _ ⟨K, hK, c⟩ k => ⟨K, PySem.W.Frag.In.keeps hK k, ⟨c.c, c.hd, c.out, fun p hp => k _ _ (c.empty p hp)⟩⟩
theorem obsXT_eq {n : Nat} {ck : List (PySem.W.Frag → Bool)} {fn : List HX.DefS} {tf : List Defn} {g : Addr → Option Obj} {s : Shared} (h : ∀ a, g a = s.heap.get? a) : obsXT n ck fn tf g = (hookXT n ck fn tf).obs s := by
  have e : g = s.heap.get? := funext h
  rw [e] <;> rfl
theorem code_ok {K : PySem.W.Frag} {name qual : Str} {st : Stmt} {p : Defn} {fd : FuncData} (F : Fun K name qual st (fAd K p) fd) : fd.code = .ref (cT K p).1 := by
  obtain ⟨oc, od, kV, doc, pm, an, cdv, ct, osl, rfl, lk, hcd⟩ := F.ex
  obtain ⟨c, rfl⟩ := codeIn_ref hcd
  have := codeOf_eq lk (c := c) rfl
  show Value.ref c = .ref (codeOf K p)
  rw [this]
section
variable {P : Program} {w : World} {K : PySem.W.Frag} {mg : Str → Option Value} {base : Heap}
/-- Fun.ok, the code object being known -/
theorem okC {x qual : Str} {st : Stmt} {f c : Addr} {fd : FuncData} {N ps : List Str} {k : Nat} {sp : Sp} (F : Fun K x qual st f fd) (ec : fd.code = .ref c) (S : FnScope N ps (defScope st)) (len : ∀ vs H Q E, sp vs H Q E → vs.length = ps.length)
    (hbody : ∀ (A : Around) (outer : List Env) (s : Shared) (H : Hp) (vs : List V) (Q : VK) (E : XK), Room k (A.deeper (envOfC qual (defScope st) s.heap.objs.size f (.ref c))) → sp vs H Q E →
      ∃ t, PSs (cxOf CX0 P w K mg base N qual (defScope st) f (.ref c) A outer s H E).nox (defBody st) t ∧ t { nx := fun _ H' => Q .non H', rt := Q } (start N vs) H) : FnOk P w K mg base CX0 (k + 1) f fd ps sp := by
  obtain ⟨oc, od, kV, doc, pm, an, cdv, ct, osl, rfl, lk, hcd⟩ := F.ex
  have e : cdv = .ref c := ec
  subst e
  refine fn_of lk hcd S len fun A outer s H vs Q E hr hsp => ?_
  obtain ⟨t, h, q⟩ := hbody A outer s H vs Q E hr hsp
  exact ⟨t, h.nox, q⟩
end
/-! ### heaps -/
theorem Tabs.same {T : List (Addr × Str)} {H H' : Hp} (s : Same H H') (t : Tabs T H) : Tabs T H' := LamX.Tabs.ext t s
theorem Tabs.kb {T : List (Addr × Str)} {a : Addr} {H H' : Hp} {xs : List V} (k : ∀ b o, b ≠ a → H b = some o → H' b = some o) (ha : H a = some (.lst xs)) (t : Tabs T H) : Tabs T H' := fun p hp => by
  obtain ⟨ps, h1, h2, h3⟩ := t p hp
  have ne : ∀ b o, (∀ xs, o ≠ .lst xs) → H b = some o → b ≠ a := fun b o n e z => by
    rw [z, ha] at e
    exact n _ (Option.some.inj e).symm
  refine ⟨ps, k _ _ (ne _ _ (fun xs z => by cases z) h1) h1, h2, fun pos cv hc => ?_⟩
  obtain ⟨c, e1, e2⟩ := h3 pos cv hc
  exact ⟨c, e1, k _ _ (ne _ _ (fun xs z => by unfold CodeO at z; cases z) e2) e2⟩
theorem ExtN.same {H H' : Hp} (s : Same H H') : ExtN H H' := fun b o h _ => s b o h
theorem ExtN.seq {K : PySem.W.Frag} {H H' : Hp} {a : Addr} {xs : List V} (e : ExtN H H') (h : SqL K H a xs) : SqL K H' a xs := by
  rcases h with (h | ⟨o, h⟩) | h
  · exact .inl (.inl (e _ _ h fun ps z => by cases z))
  · exact .inl (.inr ⟨o, e _ _ h fun ps z => by cases z⟩)
  · exact .inr h
theorem ExtN.tup {K : PySem.W.Frag} {H H' : Hp} {a : Addr} {xs : List V} (e : ExtN H H') (h : SqT K H a xs) : SqT K H' a xs := by
  rcases h with (h | ⟨o, h⟩) | h
  · exact .inl (.inl (e _ _ h fun ps z => by cases z))
  · exact .inl (.inr ⟨o, e _ _ h fun ps z => by cases z⟩)
  · exact .inr h
end HXT

namespace K27
open PySem PySem.Spec PyProof.Rows L2
def topS (i : Nat) : Stmt := PySem.Challenge.pw_struckpieces_k27_whole_bases_and_two_boo.main.body.getD i (.Pass ⟨0, 0, 0, 0⟩)
abbrev s_BadBook_init : Stmt := inClass (topS 2) 0
abbrev s_q_is_log : Stmt := topS 7
abbrev s_is_piece : Stmt := topS 8
abbrev s_Book_init : Stmt := inClass (topS 9) 0
abbrev s_Book_eq : Stmt := inClass (topS 9) 1
abbrev s_q_idle_ends : Stmt := topS 11
abbrev s_raw_is_idle : Stmt := topS 12
abbrev s_is_needless : Stmt := topS 14
abbrev s_q_needless : Stmt := topS 15
abbrev s_base : Stmt := topS 16
abbrev s_q_parting : Stmt := topS 17
abbrev s_is_held : Stmt := topS 18
abbrev s_bag : Stmt := topS 20
abbrev s_pick : Stmt := topS 21
abbrev s_some : Stmt := topS 22
abbrev s_own : Stmt := topS 23
abbrev s_named : Stmt := topS 24
abbrev s_more : Stmt := topS 25
abbrev s_full : Stmt := topS 26
abbrev s_scant : Stmt := topS 27
abbrev s_idle_ends : Stmt := topS 28
abbrev s_is_stretch : Stmt := topS 29
abbrev s_is_idle : Stmt := topS 30
abbrev s_grown : Stmt := topS 31
abbrev s_beside : Stmt := topS 32
abbrev s_needless : Stmt := topS 33
abbrev s_parting : Stmt := topS 34
abbrev s_first_apart : Stmt := topS 35
abbrev s_other : Stmt := topS 36
abbrev s_flag : Stmt := topS 37
abbrev s_law : Stmt := topS 38

abbrev Pg : Program := (PySem.Challenge.rw_struckpieces_k27_whole_bases_and_two_boo).prog
abbrev Rw : PySem.W.OpenRow := PySem.W.OpenLaw.row PySem.Challenge.rw_struckpieces_k27_whole_bases_and_two_boo

def dfn : List HX.DefS := [⟨("BadBook", some "__init__"), "__init__", "BadBook.__init__", s_BadBook_init⟩,
  ⟨("is_log", none), "is_log", "is_log", s_q_is_log⟩,
  ⟨("is_piece", none), "is_piece", "is_piece", s_is_piece⟩,
  ⟨("Book", some "__init__"), "__init__", "Book.__init__", s_Book_init⟩,
  ⟨("Book", some "__eq__"), "__eq__", "Book.__eq__", s_Book_eq⟩,
  ⟨("idle_ends", none), "idle_ends", "idle_ends", s_q_idle_ends⟩,
  ⟨("raw_is_idle", none), "raw_is_idle", "raw_is_idle", s_raw_is_idle⟩,
  ⟨("is_needless", none), "is_needless", "is_needless", s_is_needless⟩,
  ⟨("needless", none), "needless", "needless", s_q_needless⟩,
  ⟨("base", none), "base", "base", s_base⟩,
  ⟨("parting", none), "parting", "parting", s_q_parting⟩,
  ⟨("is_held", none), "is_held", "is_held", s_is_held⟩,
  ⟨("_law_bag", none), "_law_bag", "_law_bag", s_bag⟩,
  ⟨("_law_pick", none), "_law_pick", "_law_pick", s_pick⟩,
  ⟨("_law_some", none), "_law_some", "_law_some", s_some⟩,
  ⟨("_law_own", none), "_law_own", "_law_own", s_own⟩,
  ⟨("_law_named", none), "_law_named", "_law_named", s_named⟩,
  ⟨("_law_more", none), "_law_more", "_law_more", s_more⟩,
  ⟨("_law_full", none), "_law_full", "_law_full", s_full⟩,
  ⟨("_law_scant", none), "_law_scant", "_law_scant", s_scant⟩,
  ⟨("_law_idle_ends", none), "_law_idle_ends", "_law_idle_ends", s_idle_ends⟩,
  ⟨("_law_is_stretch", none), "_law_is_stretch", "_law_is_stretch", s_is_stretch⟩,
  ⟨("_law_is_idle", none), "_law_is_idle", "_law_is_idle", s_is_idle⟩,
  ⟨("_law_grown", none), "_law_grown", "_law_grown", s_grown⟩,
  ⟨("_law_beside", none), "_law_beside", "_law_beside", s_beside⟩,
  ⟨("_law_needless", none), "_law_needless", "_law_needless", s_needless⟩,
  ⟨("_law_parting", none), "_law_parting", "_law_parting", s_parting⟩,
  ⟨("_law_first_apart", none), "_law_first_apart", "_law_first_apart", s_first_apart⟩,
  ⟨("_law_other", none), "_law_other", "_law_other", s_other⟩,
  ⟨("_law_flag", none), "_law_flag", "_law_flag", s_flag⟩,
  ⟨("law", none), "law", "law", s_law⟩]
def dck : List (PySem.W.Frag → Bool) := [fun K => HX.plB K ("is_log", none) "is_log",
  fun K => (He.Fa.glo "is_log").ok K,
  fun K => HX.plB K ("is_piece", none) "is_piece",
  fun K => (He.Fa.glo "is_piece").ok K,
  fun K => HX.plB K ("Book", some "__init__") "Book.__init__",
  fun K => HX.plB K ("Book", some "__eq__") "Book.__eq__",
  fun K => HX.plB K ("idle_ends", none) "idle_ends",
  fun K => (He.Fa.glo "idle_ends").ok K,
  fun K => HX.plB K ("raw_is_idle", none) "raw_is_idle",
  fun K => (He.Fa.glo "raw_is_idle").ok K,
  fun K => HX.plB K ("is_needless", none) "is_needless",
  fun K => (He.Fa.glo "is_needless").ok K,
  fun K => HX.plB K ("needless", none) "needless",
  fun K => (He.Fa.glo "needless").ok K,
  fun K => HX.plB K ("base", none) "base",
  fun K => (He.Fa.glo "base").ok K,
  fun K => HX.plB K ("parting", none) "parting",
  fun K => (He.Fa.glo "parting").ok K,
  fun K => HX.plB K ("is_held", none) "is_held",
  fun K => (He.Fa.glo "is_held").ok K,
  fun K => HX.plB K ("_law_bag", none) "_law_bag",
  fun K => (He.Fa.glo "_law_bag").ok K,
  fun K => HX.plB K ("_law_pick", none) "_law_pick",
  fun K => (He.Fa.glo "_law_pick").ok K,
  fun K => HX.plB K ("_law_some", none) "_law_some",
  fun K => (He.Fa.glo "_law_some").ok K,
  fun K => HX.plB K ("_law_own", none) "_law_own",
  fun K => (He.Fa.glo "_law_own").ok K,
  fun K => HX.plB K ("_law_named", none) "_law_named",
  fun K => (He.Fa.glo "_law_named").ok K,
  fun K => HX.plB K ("_law_more", none) "_law_more",
  fun K => (He.Fa.glo "_law_more").ok K,
  fun K => HX.plB K ("_law_full", none) "_law_full",
  fun K => (He.Fa.glo "_law_full").ok K,
  fun K => HX.plB K ("_law_scant", none) "_law_scant",
  fun K => (He.Fa.glo "_law_scant").ok K,
  fun K => HX.plB K ("_law_idle_ends", none) "_law_idle_ends",
  fun K => (He.Fa.glo "_law_idle_ends").ok K,
  fun K => HX.plB K ("_law_is_stretch", none) "_law_is_stretch",
  fun K => (He.Fa.glo "_law_is_stretch").ok K,
  fun K => HX.plB K ("_law_is_idle", none) "_law_is_idle",
  fun K => (He.Fa.glo "_law_is_idle").ok K,
  fun K => HX.plB K ("_law_grown", none) "_law_grown",
  fun K => (He.Fa.glo "_law_grown").ok K,
  fun K => HX.plB K ("_law_beside", none) "_law_beside",
  fun K => (He.Fa.glo "_law_beside").ok K,
  fun K => HX.plB K ("_law_needless", none) "_law_needless",
  fun K => (He.Fa.glo "_law_needless").ok K,
  fun K => HX.plB K ("_law_parting", none) "_law_parting",
  fun K => (He.Fa.glo "_law_parting").ok K,
  fun K => HX.plB K ("_law_first_apart", none) "_law_first_apart",
  fun K => (He.Fa.glo "_law_first_apart").ok K,
  fun K => HX.plB K ("_law_other", none) "_law_other",
  fun K => (He.Fa.glo "_law_other").ok K,
  fun K => HX.plB K ("_law_flag", none) "_law_flag",
  fun K => (He.Fa.glo "_law_flag").ok K,
  fun K => HX.plB K ("law", none) "law",
  fun K => (He.Fa.glo "law").ok K,
  fun K => (He.Fa.glo "LogError").ok K,
  fun K => HX.oexB K (He.ga K "LogError"),
  fun K => HX.excB K (He.ga K "LogError"),
  fun K => decide (PySem.W.subIn K (.ref (He.ga K "LogError")) (.type "BaseException") = some true),
  fun K => decide (PySem.W.typeIn K (.ref (He.ga K "LogError")) = some (.type "type")),
  fun K => PySem.W.excIn K (He.ga K "LogError") He.veBase "ValueError.__new__",
  fun K => PySem.W.keepIn K (.ref (He.ga K "LogError")),
  fun K => (He.Fa.glo "BadBook").ok K,
  fun K => HX.oexB K (He.ga K "BadBook"),
  fun K => HX.excB K (He.ga K "BadBook"),
  fun K => decide (PySem.W.subIn K (.ref (He.ga K "BadBook")) (.type "BaseException") = some true),
  fun K => decide (PySem.W.typeIn K (.ref (He.ga K "BadBook")) = some (.type "type")),
  fun K => HX.sicB K (He.ga K "BadBook") "part",
  fun K => HX.spB K ("BadBook", some "__init__") "BadBook.__init__" Pg.main.file (He.ga K "BadBook"),
  fun K => (He.Fa.free "super").ok K,
  fun K => He.eqO (PySem.W.findIn K (.ref (He.ga K "BadBook")) "part") (some none),
  fun K => He.eqO (PySem.W.findIn K (.ref (He.ga K "BadBook")) "__init__") (some (some (.ref (He.ma K (He.ga K "BadBook") "__init__")))),
  fun K => decide (PySem.W.typeIn K (.ref (He.ma K (He.ga K "BadBook") "__init__")) = some (.type "function")),
  fun K => (He.Fa.glo "Book").ok K,
  fun K => (He.Fa.cls "Book").ok K,
  fun K => (He.Fa.mkr "Book").ok K,
  fun K => He.eqO (PySem.W.findIn K (.ref (He.ga K "Book")) "__eq__") (some (some (.ref (He.ma K (He.ga K "Book") "__eq__")))),
  fun K => PySem.W.isFn K (.ref (He.ma K (He.ga K "Book") "__eq__")),
  fun K => He.eqO (PySem.W.findIn K (.ref (He.ga K "Book")) "__ne__") (some (some (.builtin "object.__ne__"))),
  fun K => decide (PySem.W.subIn K (.ref (He.ga K "Book")) (.type "object") = some true),
  fun K => ["tuple", "int", "str", "list", "bool", "NoneType", "dict"].all fun t => PySem.W.notFirst K (He.ga K "Book") (.type t),
  fun K => He.eqO (PySem.W.findIn K (.ref (He.ga K "Book")) "__class__") (some (some (.builtin "object.__class__"))),
  fun K => He.eqO (PySem.W.specialIn K (.builtin "object.__class__") "__get__") (some (some (.builtin "getset_descriptor.__get__"))),
  fun K => decide (PySem.W.takesIn K (.builtin "object.__class__") = some true),
  fun K => decide (PySem.W.mroIn K (He.ga K "Book") (.type "object") = some true),
  fun K => ["tuple", "int", "str", "list", "bool", "NoneType", "dict"].all fun t => PySem.W.kitOne K (.type t) (.ref (He.ga K "Book")) == some false,
  fun K => (He.Fa.noat "Book" "pieces").ok K,
  fun K => (He.Fa.str "LETTERS" "abcdefgh").ok K,
  fun K => (He.Fa.int "MOST_PIECES" (12)).ok K,
  fun K => (He.Fa.int "MOST_LONG" (8)).ok K,
  fun K => (He.Fa.free "abs").ok K,
  fun K => (He.Fa.free "all").ok K,
  fun K => (He.Fa.free "any").ok K,
  fun K => (He.Fa.free "bool").ok K,
  fun K => (He.Fa.free "enumerate").ok K,
  fun K => (He.Fa.free "int").ok K,
  fun K => (He.Fa.free "isinstance").ok K,
  fun K => (He.Fa.free "len").ok K,
  fun K => (He.Fa.free "list").ok K,
  fun K => (He.Fa.free "min").ok K,
  fun K => (He.Fa.free "range").ok K,
  fun K => (He.Fa.free "set").ok K,
  fun K => (He.Fa.free "sorted").ok K,
  fun K => (He.Fa.free "str").ok K,
  fun K => (He.Fa.free "sum").ok K,
  fun K => (He.Fa.free "tuple").ok K,
  fun K => decide ([(He.cT K ("parting", none)).2] : List Addr).Nodup]
def dtf : List He.Defn := [("parting", none)]
abbrev hk : PySem.W.Hook := HXT.hookXT 5 dck dfn dtf
def ob (s : PySem.W.SharedT) : HXT.AlXT := HXT.obsXT 5 dck dfn dtf (HandSHeadRun.getT s)
theorem ob_eq (s : PySem.W.SharedT) : ob s = hk.obs s.abs := HXT.obsXT_eq (HandSHeadRun.getT_eq s)
def loose : List Str := (["is_log", "is_piece", "idle_ends", "raw_is_idle", "is_needless", "needless", "base", "parting", "is_held", "_law_bag", "_law_pick", "_law_some", "_law_own", "_law_named", "_law_more", "_law_full", "_law_scant", "_law_idle_ends", "_law_is_stretch", "_law_is_idle"] : List Str) ++ (["_law_grown", "_law_beside", "_law_needless", "_law_parting", "_law_first_apart", "_law_other", "_law_flag", "LogError", "BadBook", "Book", "LETTERS", "MOST_PIECES", "MOST_LONG"] : List Str)
theorem run (w : World) : HandSHeadRun.RunEq Rw (PySem.W.view Rw.prog [38]) hk ob 60000 loose w := by
  intro os
  kernel_rfl
end K27
namespace K27
open PySem PySem.W PySem.Calls PyProof.Rows LamX L2
theorem head1 (F : ∀ (w : PySem.World) (mg : PySem.Str → Option PySem.Value) (fa : PySem.Addr) (h : PySem.Heap), hk.says w h → h.Ns PySem.mainGlobals mg → mg ("law" : PySem.Str) = some (.ref fa) → ∃ K : PySem.W.Frag, K.In h ∧ LawAtS PySem.Challenge.rw_struckpieces_k27_whole_bases_and_two_boo w K L2.CX0 31 63 "_law_script" mg fa h) : PySem.Challenge.rw_struckpieces_k27_whole_bases_and_two_boo.Holds := by
  w_on; o_law
  refine HandSHeadRun.head_any (r := OpenLaw.row PySem.Challenge.rw_struckpieces_k27_whole_bases_and_two_boo) (q := view (OpenLaw.row PySem.Challenge.rw_struckpieces_k27_whole_bases_and_two_boo).prog [38]) (H := K27.hk) (ob := K27.ob) (M := 60000) (loose := K27.loose) (d := HandSHeadRun.topDef (OpenLaw.row PySem.Challenge.rw_struckpieces_k27_whole_bases_and_two_boo).prog 38) (kwd := []) K27.ob_eq
    (by kernel_rfl) (fun s => by kernel_rfl) K27.run (by kernel_rfl) (by kernel_rfl) (by kernel_rfl) (by rfl) (by first | assumption | decide +kernel) (by decide +kernel) ⟨rfl, rfl, rfl, rfl, rfl, by decide +kernel⟩ ?hw ?hc
  case hw => w_witness2
  case hc =>
    refine LamX.walk_ofTsE (l := PySem.Challenge.rw_struckpieces_k27_whole_bases_and_two_boo) (n := 63) (k := 31) (x := "_law_script") (CX := fun _ => L2.CX0) rfl (by decide) (by kernel_rfl) ⟨rfl, by decide, by decide⟩ ?F (fun _ _ _ _ _ z => z)
    intro w mg fa h Y G hmg0
    have hmg : mg ("law" : PySem.Str) = some (.ref fa) := by
      have e : (HandSHeadRun.topDef (OpenLaw.row PySem.Challenge.rw_struckpieces_k27_whole_bases_and_two_boo).prog 38).name = ("law" : PySem.Str) := by kernel_rfl
      rw [← e]
      exact hmg0
    exact F w mg fa h Y G hmg
end K27
/-! readings, step by step -/
namespace RD
open PySem PySem.Spec PyProof.Rows L2

/-! ### heaps -/
/-- all but x is as it was -/
def KB (x : Addr) (H H' : Hp) : Prop := ∀ b o, b ≠ x → H b = some o → H' b = some o
theorem at_same {H H' : Hp} {a : Addr} {o : HO} (s : Same H H') (h : H a = some o) : H' a = some o := s a o h
theorem at_kb {x a : Addr} {H H' : Hp} {o : HO} (s : KB x H H') (n : a ≠ x) (h : H a = some o) : H' a = some o := s a o n h
theorem Same.kb {x : Addr} {H H' : Hp} (s : Same H H') : KB x H H' := fun b o _ h => s b o h
theorem KB.refl {x : Addr} {H : Hp} : KB x H H := fun _ _ _ h => h
theorem KB.trans {x : Addr} {H H1 H2 : Hp} (a : KB x H H1) (b : KB x H1 H2) : KB x H H2 := fun c o n h => b c o n (a c o n h)
theorem KB.seq {x : Addr} {K : PySem.W.Frag} {H H' : Hp} {a : Addr} {xs : List V} (e : KB x H H') (n : a ≠ x) (h : SqL K H a xs) : SqL K H' a xs := by
  rcases h with (h | ⟨o, h⟩) | h
  · exact .inl (.inl (e _ _ n h))
  · exact .inl (.inr ⟨o, e _ _ n h⟩)
  · exact .inr h
theorem KB.tup {x : Addr} {K : PySem.W.Frag} {H H' : Hp} {a : Addr} {xs : List V} (e : KB x H H') (n : a ≠ x) (h : SqT K H a xs) : SqT K H' a xs := by
  rcases h with (h | ⟨o, h⟩) | h
  · exact .inl (.inl (e _ _ n h))
  · exact .inl (.inr ⟨o, e _ _ n h⟩)
  · exact .inr h
theorem Same.tup {K : PySem.W.Frag} {H H' : Hp} {a : Addr} {xs : List V} (e : Same H H') (h : SqT K H a xs) : SqT K H' a xs := by
  rcases h with (h | ⟨o, h⟩) | h
  · exact .inl (.inl (e _ _ h))
  · exact .inl (.inr ⟨o, e _ _ h⟩)
  · exact .inr h
theorem fr_of {H H' : Hp} {p : Addr} (n : H' p = none) (s : Same H H') : H p = none := Same.free s n
theorem sm_tr {H H1 H' : Hp} (h2 : Same H1 H') (h1 : Same H H1) : Same H H' := h1.trans h2
theorem kb_tr {x : Addr} {H H1 H' : Hp} (h2 : KB x H1 H') (h1 : KB x H H1) : KB x H H' := h1.trans h2
theorem kb_trs {x : Addr} {H H1 H' : Hp} (h2 : Same H1 H') (h1 : KB x H H1) : KB x H H' := h1.trans (Same.kb h2)
theorem same_new {H : Hp} {p : Addr} {o : HO} (h : H p = none) : Same H (upd H p o) := fun b x e => by
  rw [upd_ne (ne_of_none e h)]
  exact e
theorem kb_upd {H : Hp} {p : Addr} {o : HO} : KB p H (upd H p o) := fun b x n e => by
  rw [upd_ne n]
  exact e
theorem same_mut {H H' : Hp} {p : Addr} (k : KB p H H') {H0 : Hp} (s : Same H0 H) (n : H0 p = none) : Same H0 H' := fun b o e => k b o (ne_of_none e n) (s b o e)
theorem sz (n : Nat) (h : Nat.ble n 16777216 = true := by rfl) : n ≤ sizeLine := by rw [sizeLine_eq]; exact Nat.le_of_ble_eq_true h
theorem szo {n : Nat} (h : n ≤ 16777216) : n ≤ sizeLine := by rw [sizeLine_eq]; exact h
theorem szl {n : Nat} (h : n < 16777216) : n < sizeLine := by rw [sizeLine_eq]; exact h

/-- a new object is laid -/
def NewO (H : Hp) (o : HO) (Q : VK) : Prop := ∀ p, H p = none → Q (.ref p) (upd H p o)
/-! ### expressions -/
section
variable {K : PySem.W.Frag} {σ : L2.St} {H : Hp} {Q : VK} {QB : Bool → Hp → Prop} {QL : List V → Hp → Prop} {QO : Option Int → Hp → Prop} {ta tb te : TE} {tx ty : TA} {t u : TT} {r : R2} {v x y : V} {i j : Int} {tl th : TO}
theorem op (h : ta σ H fun x H1 => tb σ H1 fun y H2 => r x y H2 Q) : tOp r ta tb σ H Q := h
theorem un {r : V → Hp → VK → Prop} (h : ta σ H fun x H1 => r x H1 Q) : tUn r ta σ H Q := h
theorem var {i : Nat} (e : σ[i]? = some (some v)) (h : Q v H) : tVar i σ H Q := ⟨v, e, h⟩
theorem c (h : Q v H) : tC v σ H Q := h
theorem nil (h : QL [] H) : tNil σ H QL := h
theorem cons (h : ta σ H fun x H1 => tx σ H1 fun xs H2 => QL (x :: xs) H2) : tCons ta tx σ H QL := h
theorem cb {r : List V → Hp → VK → Prop} (h : tx σ H fun vs H1 => r vs H1 Q) : tCB r tx σ H Q := h
theorem call {sp : Sp} {dvs : List V} {E : XK} (h : tx σ H fun vs H1 => sp (vs ++ dvs) H1 Q E) : tCall sp dvs E tx σ H Q := h
theorem test (h : te σ H fun x H' => ∃ k, x = .bl k ∧ QB k H') : tTest te σ H QB := h
theorem tb' (h : te σ H fun x H' => ∃ k, x = .bl k ∧ QB k H') : tB te σ H QB := h
theorem bl {b : Bool} {R : Bool → Prop} (h : R b) : ∃ k, V.bl b = .bl k ∧ R k := ⟨b, rfl, h⟩
theorem and' (h : t σ H fun c H1 => if c = true then u σ H1 QB else QB false H1) : tAnd t u σ H QB := h
theorem or' (h : t σ H fun c H1 => if c = true then QB true H1 else u σ H1 QB) : tOr t u σ H QB := h
theorem not' (h : t σ H fun c H1 => QB (!c) H1) : tNot t σ H QB := h
theorem andV (h : ta σ H fun x H1 => ∃ c, x = .bl c ∧ if c = true then tb σ H1 Q else Q (.bl false) H1) : tAndV ta tb σ H Q := h
theorem orV (h : ta σ H fun x H1 => ∃ c, x = .bl c ∧ if c = true then Q (.bl true) H1 else tb σ H1 Q) : tOrV ta tb σ H Q := h
theorem notV (h : ta σ H fun x H1 => ∃ c, x = .bl c ∧ Q (.bl (!c)) H1) : tNotV ta σ H Q := h
theorem ife (h : t σ H fun c H1 => if c = true then ta σ H1 Q else tb σ H1 Q) : tIf t ta tb σ H Q := h
theorem sl {r : V → Option Int → Option Int → Hp → VK → Prop} (h : te σ H fun x H1 => tl σ H1 fun l H2 => th σ H2 fun u H3 => r x l u H3 Q) : tSl r te tl th σ H Q := h
theorem part (h : te σ H fun x H1 => ∃ i, x = .int i ∧ QO (some i) H1) : tPart te σ H QO := h
theorem noPart (h : QO none H) : tNoPart σ H QO := h
theorem partI {R : Int → Prop} (h : R i) : ∃ j, V.int i = .int j ∧ R j := ⟨i, rfl, h⟩
theorem rd0 {g : Int → Int → V} (h : Q (g i j) H) : rI0 g (.int i) (.int j) H Q := ⟨i, j, rfl, rfl, h⟩
theorem rdI {C : Int → Int → Prop} {g : Int → Int → V} (hc : C i j) (h : Q (g i j) H) : rI C g (.int i) (.int j) H Q := ⟨i, j, rfl, rfl, hc, h⟩
theorem rdU {g : Int → V} (h : Q (g i) H) : rU g (.int i) H Q := ⟨i, rfl, h⟩
theorem rdEq (hs : scal x y = true) (h : Q (.bl (decide (x = y))) H) : rEq x y H Q := ⟨hs, h⟩
theorem rdNe (hs : scal x y = true) (h : Q (.bl (!decide (x = y))) H) : rNe x y H Q := ⟨hs, h⟩
theorem ixL {p : Addr} {xs : List V} (hx : SqL K H p xs) (ha : atI xs i = some v) (h : Q v H) : rIxL K (.ref p) (.int i) H Q := ⟨p, xs, i, v, rfl, rfl, hx, ha, h⟩
theorem ixT {p : Addr} {xs : List V} (hx : SqT K H p xs) (ha : atI xs i = some v) (h : Q v H) : rIxT K (.ref p) (.int i) H Q := ⟨p, xs, i, v, rfl, rfl, hx, ha, h⟩
theorem ixS {z : Str} {c : Nat} (hl : z.length ≤ sizeLine) (ha : atI z.cps.toList i = some c) (h : Q (.str ⟨#[c]⟩) H) : rIxS (.str z) (.int i) H Q := ⟨z, i, c, rfl, rfl, hl, ha, h⟩
theorem tup (h : tx σ H fun xs H1 => xs.length ≤ sizeLine ∧ NewO H1 (.tup xs) Q) : tTup tx σ H Q := h
theorem lst (h : tx σ H fun xs H1 => xs.length ≤ sizeLine ∧ NewO H1 (.lst xs) Q) : tLst tx σ H Q := h
theorem slL {a : Addr} {xs : List V} {lo hi : Option Int} (hx : SqL K H a xs) (h : ∀ p H2, H p = none → Same H H2 → H2 p = some (.lst (cutV xs lo hi)) → Q (.ref p) H2) : rSlL K (.ref a) lo hi H Q := ⟨a, xs, rfl, hx, fun p hp => h p _ hp (same_new hp) upd_same⟩
/-- a new object: the heap from then on is any that holds it and all else -/
theorem new {o : HO} {R : Addr → Hp → Prop} (h : ∀ p H2, H p = none → Same H H2 → H2 p = some o → R p H2) : ∀ p, H p = none → R p (upd H p o) := fun p hp => h p _ hp (same_new hp) upd_same
theorem newZ {n : Nat} {o : HO} (z : n ≤ sizeLine) (h : ∀ p H2, H p = none → Same H H2 → H2 p = some o → Q (.ref p) H2) : n ≤ sizeLine ∧ NewO H o Q := ⟨z, fun p hp => h p _ hp (same_new hp) upd_same⟩
theorem mutn {a : Addr} {o : HO} {R : Hp → Prop} (h : ∀ H2, KB a H H2 → H2 a = some o → R H2) : R (upd H a o) := h _ kb_upd upd_same
theorem len {p : Addr} {ys : List V} {R : Addr → List V → Prop} (hx : SqL K H p ys ∨ SqT K H p ys) (h : R p ys) : (∃ q zs, [V.ref p] = [.ref q] ∧ (SqL K H q zs ∨ SqT K H q zs) ∧ R q zs) := ⟨p, ys, rfl, hx, h⟩
theorem lenS {z : Str} {R : Str → Prop} (hl : z.length ≤ sizeLine) (h : R z) : (∃ w : Str, [V.str z] = [.str w] ∧ w.length ≤ sizeLine ∧ R w) := ⟨z, rfl, hl, h⟩
theorem int1 {R : Int → Prop} {S : Bool → Prop} (h : R i) : (∃ k, [V.int i] = [.int k] ∧ R k) ∨ ∃ k, [V.int i] = [.bl k] ∧ S k := .inl ⟨i, rfl, h⟩
theorem abs1 {R : Int → Prop} (h : R i) : (∃ k, [V.int i] = [.int k] ∧ R k) := ⟨i, rfl, h⟩
theorem all1 {a : Addr} {bs : List Bool} (hx : SqL K H a (bs.map V.bl)) (h : Q (.bl (bs.all id)) H) : rAll K [.ref a] H Q := ⟨a, bs, rfl, hx, h⟩
theorem any1 {a : Addr} {bs : List Bool} (hx : SqL K H a (bs.map V.bl)) (h : Q (.bl (bs.any id)) H) : rAny K [.ref a] H Q := ⟨a, bs, rfl, hx, h⟩
theorem isi {x c : V} {t u : Value} {b : Bool} (hc : ClsV c u) (hx : TyX K H x t) (e : PySem.W.kitOne K t u = some b) (h : Q (.bl b) H) : rIsi K [x, c] H Q := ⟨x, c, t, u, b, rfl, hc, hx, e, h⟩
theorem cat {l b : Addr} {xs zs : List V} (h1 : H l = some (.lst xs)) (h2 : H b = some (.lst zs)) (hz : xs.length + zs.length ≤ sizeLine) (h : ∀ p H2, H p = none → Same H H2 → H2 p = some (.lst (xs ++ zs)) → Q (.ref p) H2) : rCat (.ref l) (.ref b) H Q := ⟨l, b, xs, zs, rfl, rfl, h1, h2, hz, fun p hp => h p _ hp (same_new hp) upd_same⟩
theorem eqD {d e : PyData} (h1 : Dp K H x d) (h2 : Dp K H y e) (s1 : SeqAt.shaped d = true) (s2 : SeqAt.shaped e = true) (h : Q (.bl (PyData.eqv d e)) H) : rEqD K x y H Q := ⟨d, e, h1, h2, s1, s2, h⟩
theorem neD {d e : PyData} (h1 : Dp K H x d) (h2 : Dp K H y e) (s1 : SeqAt.shaped d = true) (s2 : SeqAt.shaped e = true) (h : Q (.bl (!PyData.eqv d e)) H) : rNeD K x y H Q := ⟨d, e, h1, h2, s1, s2, h⟩
theorem ite1 {A B : Prop} (h : A) : if true = true then A else B := iteT h
theorem ite0 {A B : Prop} (h : B) : if false = true then A else B := iteF h
theorem ite1n {A B : Prop} (h : B) : if (!true) = true then A else B := iteF h
theorem ite0n {A B : Prop} (h : A) : if (!false) = true then A else B := iteT h
theorem ite_b {b : Bool} {A B : Prop} (h1 : b = true → A) (h2 : b = false → B) : if b = true then A else B := by
  cases b with
  | true => exact iteT (h1 rfl)
  | false => exact iteF (h2 rfl)
theorem ite_d {p : Prop} [Decidable p] {A B : Prop} (h1 : p → A) (h2 : ¬ p → B) : if decide p = true then A else B := ite_b (fun e => h1 (of_decide_eq_true e)) (fun e => h2 (of_decide_eq_false e))
theorem ite_nd {p : Prop} [Decidable p] {A B : Prop} (h1 : ¬ p → A) (h2 : p → B) : if (!decide p) = true then A else B := ite_b (fun e => h1 (of_decide_eq_false (by simpa using e))) (fun e => h2 (of_decide_eq_true (by simpa using e)))
end

/-! ### statements -/
section
variable {K : PySem.W.Frag} {σ : L2.St} {H : Hp} {D : Ends} {te ta : TE} {ts t u : TS} {tt : TT} {g : TG} {tx : TA} {v : V} {i : Nat} {QS : L2.St → Hp → Prop}
theorem seq (h : t { D with nx := u D } σ H) : tSeq t u D σ H := h
theorem asg (h : te σ H fun x H1 => g x σ H1 D.nx) : tAsg te g D σ H := h
theorem name (h : QS (σ.set i (some v)) H) : gName i v σ H QS := h
theorem ret (h : te σ H D.rt) : tRet te D σ H := h
theorem drop (h : te σ H fun _ H1 => D.nx σ H1) : tDrop te D σ H := h
theorem next (h : D.nx σ H) : tNext D σ H := h
theorem ifs (h : tt σ H fun b H1 => if b = true then t D σ H1 else u D σ H1) : tIfS tt t u D σ H := h
theorem par {j : Nat} (h : tx σ H fun vs H1 => ∃ v w, vs = [v, w] ∧ D.nx ((σ.set i (some v)).set j (some w)) H1) : tPar i j tx D σ H := h
theorem par2 {x y : V} {R : V → V → Prop} (h : R x y) : ∃ v w, [x, y] = [v, w] ∧ R v w := ⟨x, y, rfl, h⟩
theorem sub {to ti : TE} {s : TSet} (h : to σ H fun o H1 => ti σ H1 fun i H2 => s o i v H2 fun H3 => QS σ H3) : gSub to ti s v σ H QS := h
theorem setL {p : Addr} {xs : List V} {k : Int} {j : Nat} {R : Hp → Prop} (hx : H p = some (.lst xs)) (hi : ixN xs.length k = some j) (h : ∀ H2, KB p H H2 → H2 p = some (.lst (xs.set j v)) → R H2) : rSetL (.ref p) (.int k) v H R := ⟨p, xs, k, j, rfl, rfl, hx, hi, mutn h⟩
theorem gtup {n : Nat} {tg : TGs} {a : Addr} {xs : List V} (hx : SqT K H a xs) (hn : xs.length = n) (h : tg xs σ H QS) : gTup K n tg (.ref a) σ H QS := ⟨a, xs, rfl, hx, hn, h⟩
theorem gcons {tg : TG} {tgs : TGs} {vs : List V} (h : tg v σ H fun σ' H' => tgs vs σ' H' QS) : gCons tg tgs (v :: vs) σ H QS := ⟨v, vs, rfl, h⟩
theorem gnil (h : QS σ H) : gNil [] σ H QS := ⟨rfl, h⟩
theorem bm {T : String} {r : V → List V → Hp → VK → Prop} {Q : VK} (h : ta σ H fun x H1 => tyV K T x H1 ∧ tx σ H1 fun xs H2 => r x xs H2 Q) : tBM K T r ta tx σ H Q := h
theorem bmL {p : Addr} {xs : List V} {R : Prop} (hx : SqL K H p xs) (h : R) : tyV K "list" (.ref p) H ∧ R := ⟨.inl ⟨rfl, _, hx⟩, h⟩
theorem app {l : Addr} {xs : List V} {y : V} {Q : VK} (hx : H l = some (.lst xs)) (hz : xs.length < sizeLine) (h : ∀ H2, KB l H H2 → H2 l = some (.lst (xs ++ [y])) → Q .non H2) : rAppend (.ref l) [y] H Q := ⟨l, xs, y, rfl, rfl, hx, hz, mutn h⟩
end
end RD
namespace RD
open PySem PySem.Spec PyProof.Rows L2
theorem at_lt {α : Type} {xs : List α} {i : Int} (h0 : 0 ≤ i) (h1 : i < (xs.length : Int)) : ∃ v, atI xs i = some v ∧ xs[i.toNat]? = some v := by
  have h : i.toNat < xs.length := by omega
  obtain ⟨v, hv⟩ : ∃ v, xs[i.toNat]? = some v := ⟨_, List.getElem?_eq_getElem h⟩
  have z : atI xs ((i.toNat : Nat) : Int) = some v := atI_nat hv
  rw [show ((i.toNat : Nat) : Int) = i by omega] at z
  exact ⟨v, z, hv⟩
/-! ### loops and comprehensions -/
def ForG (J : It) (g : TG) (tb : TS) (D : Ends) (σ : L2.St) (H1 : Hp) : Prop := ∃ W : Nat → Nat → L2.St → Hp → Prop, (∃ m, W 0 m σ H1) ∧ ∀ i m σ H, W i m σ H →
  (J.stop i H ∧ D.nx σ H) ∨ (J.go i H ∧ ∃ N : L2.St → Hp → Prop, (∀ σ' H', N σ' H' → ∃ m', m' < m ∧ W (i + 1) m' σ' H') ∧ ∀ x H', J.yld i H x H' → g x σ H' fun σ2 H2 => tb { D with nx := N, ct := N, bk := D.nx } σ2 H2)
def LcG (J : It) (g : TG) (tt : TT) (te : TE) (vs : List Nat) (σ : L2.St) (H1 : Hp) (Q : VK) : Prop := ∀ D, H1 D = none → ∃ W : Nat → Nat → Hp → Prop, (∃ m, W 0 m (upd H1 D (.lst []))) ∧ ∀ i m H, W i m H →
  (J.stop i H ∧ Q (.ref D) H) ∨ (J.go i H ∧ ∃ Nx : Hp → Prop, (∀ H', Nx H' → ∃ m', m' < m ∧ W (i + 1) m' H') ∧ ∀ x H', J.yld i H x H' → g x (wipe σ vs) H' fun σ2 H2 => wipe σ2 vs = wipe σ vs ∧ tt σ2 H2 fun b H3 =>
    if b = true then te σ2 H3 fun y H4 => ∃ acc, H4 D = some (.lst acc) ∧ acc.length < sizeLine ∧ Nx (upd H4 D (.lst (acc ++ [y]))) else Nx H3)
section
variable {K : PySem.W.Frag} {J : It} {n : Nat} {G : Hp → Prop} {Y : Nat → Hp → V → Hp → Prop} {g : TG} {tt : TT} {te : TE} {tb : TS} {D : Ends} {vs : List Nat} {σ : L2.St} {H1 H : Hp} {Q : VK} {wi : TI} {tx : TA} {R : It → Hp → Prop}
theorem fors (h : wi σ H fun J H1 => ForG J g tb D σ H1) : tFor wi g tb D σ H := h
theorem lc (h : wi σ H fun J H1 => LcG J g tt te vs σ H1 Q) : tLc wi g tt te vs σ H Q := h
theorem yes {QB : Bool → Hp → Prop} (h : QB true H) : tYes σ H QB := h
theorem ilist (h : te σ H fun x H1 => ∃ a, x = .ref a ∧ (∃ xs, SqL K H1 a xs) ∧ R (Itl K a) H1) : iList K te σ H R := h
theorem ilistV {a : Addr} {xs : List V} {S : Addr → Prop} (hx : SqL K H a xs) (h : S a) : ∃ b, V.ref a = .ref b ∧ (∃ xs, SqL K H b xs) ∧ S b := ⟨a, rfl, ⟨xs, hx⟩, h⟩
theorem itup (h : te σ H fun x H1 => ∃ a, x = .ref a ∧ (∃ xs, SqT K H1 a xs) ∧ R (Itt K a) H1) : iTup K te σ H R := h
theorem itupV {a : Addr} {xs : List V} {S : Addr → Prop} (hx : SqT K H a xs) (h : S a) : ∃ b, V.ref a = .ref b ∧ (∃ xs, SqT K H b xs) ∧ S b := ⟨a, rfl, ⟨xs, hx⟩, h⟩
theorem irng1 (h : tx σ H fun vs H1 => ∃ j : Int, vs = [.int j] ∧ -(2 ^ 62) ≤ j ∧ j < 2 ^ 62 ∧ R (Itr 0 j.toNat) H1) : iRng1 tx σ H R := h
theorem irng1V {j : Int} {S : Int → Prop} (h1 : -(2 ^ 62) ≤ j) (h2 : j < 2 ^ 62) (h : S j) : ∃ k : Int, [V.int j] = [.int k] ∧ -(2 ^ 62) ≤ k ∧ k < 2 ^ 62 ∧ S k := ⟨j, rfl, h1, h2, h⟩
theorem irng2 (h : tx σ H fun vs H1 => ∃ i j : Int, vs = [.int i, .int j] ∧ (-(2 ^ 62) ≤ i ∧ i < 2 ^ 62 ∧ -(2 ^ 62) ≤ j ∧ j < 2 ^ 62) ∧ R (Itr i (j - i).toNat) H1) : iRng2 tx σ H R := h
theorem irng2V {i j : Int} {S : Int → Int → Prop} (h1 : -(2 ^ 62) ≤ i ∧ i < 2 ^ 62 ∧ -(2 ^ 62) ≤ j ∧ j < 2 ^ 62) (h : S i j) : ∃ a b : Int, [V.int i, V.int j] = [.int a, .int b] ∧ (-(2 ^ 62) ≤ a ∧ a < 2 ^ 62 ∧ -(2 ^ 62) ≤ b ∧ b < 2 ^ 62) ∧ S a b := ⟨i, j, rfl, h1, h⟩
theorem ienum (h : tx σ H fun vs H1 => ∃ a xs, vs = [.ref a] ∧ SqL K H1 a xs ∧ R (Ite K a) H1) : iEnum K tx σ H R := h
theorem ienumV {a : Addr} {xs : List V} {S : Addr → Prop} (hx : SqL K H a xs) (h : S a) : ∃ b ys, [V.ref a] = [.ref b] ∧ SqL K H b ys ∧ S b := ⟨a, xs, rfl, hx, h⟩
theorem izip (h : tx σ H fun vs H1 => ∃ a b xs ys, vs = [.ref a, .ref b] ∧ SqL K H1 a xs ∧ SqL K H1 b ys ∧ R (Itz K a b) H1) : iZip K tx σ H R := h
theorem izipV {a b : Addr} {xs ys : List V} {S : Addr → Addr → Prop} (hx : SqL K H a xs) (hy : SqL K H b ys) (h : S a b) : ∃ c d xs ys, [V.ref a, V.ref b] = [.ref c, .ref d] ∧ SqL K H c xs ∧ SqL K H d ys ∧ S c d := ⟨a, b, xs, ys, rfl, hx, hy, h⟩
theorem istr (h : te σ H fun v H1 => ∃ x, v = .str x ∧ R (Its x) H1) : iStr te σ H R := h
theorem istrV {z : Str} {S : Str → Prop} (h : S z) : ∃ x, V.str z = .str x ∧ S x := ⟨z, rfl, h⟩
theorem forW (w : Walk J n G Y) (Pv : Nat → L2.St → Hp → Prop) (h0 : Pv 0 σ H) (hG : ∀ i σ H, i ≤ n → Pv i σ H → G H)
    (hs : ∀ i x σ H H', i < n → Pv i σ H → Y i H x H' → g x σ H' fun σ2 H2 => tb { D with nx := Pv (i + 1), ct := Pv (i + 1), bk := D.nx } σ2 H2) (hd : ∀ σ H, Pv n σ H → D.nx σ H) : ForG J g tb D σ H := for_it w Pv h0 hG hs hd
theorem lcW (w : Walk J n G Y) (hn : n ≤ 16777216)
    (h : ∀ D H2, H1 D = none → Same H1 H2 → H2 D = some (.lst []) → ∃ Pv : Nat → List V → Hp → Prop, Pv 0 [] H2 ∧ (∀ i acc H, i ≤ n → Pv i acc H → G H) ∧
      (∀ i x acc H H' (Z : VK) (N : Hp → Prop), i < n → Pv i acc H → H D = some (.lst acc) → Y i H x H' →
        (∀ y H4, H4 D = some (.lst acc) → (∀ H5, KB D H4 H5 → H5 D = some (.lst (acc ++ [y])) → Pv (i + 1) (acc ++ [y]) H5) → Z y H4) → (∀ H4, H4 D = some (.lst acc) → Pv (i + 1) acc H4 → N H4) →
        g x (wipe σ vs) H' fun σ2 H2 => wipe σ2 vs = wipe σ vs ∧ tt σ2 H2 fun b H3 => if b = true then te σ2 H3 Z else N H3) ∧
      (∀ acc H, Pv n acc H → H D = some (.lst acc) → Q (.ref D) H)) : LcG J g tt te vs σ H1 Q := by
  intro D hD
  obtain ⟨Pv, p0, pG, ps, pd⟩ := h D (upd H1 D (.lst [])) hD (same_new hD) upd_same
  refine lc_it w (fun i H => ∃ acc, acc.length ≤ i ∧ H D = some (.lst acc) ∧ Pv i acc H) ⟨[], Nat.le_refl _, upd_same, p0⟩ (fun i H hi ⟨acc, _, _, p⟩ => pG i acc H hi p) (fun i x H H' hi ⟨acc, hl, hD', p⟩ hy => ?_) (fun H ⟨acc, _, hD', p⟩ => pd acc H p hD')
  refine ps i x acc H H' _ _ hi p hD' hy (fun y H4 h4 h5 => ⟨acc, h4, by rw [sizeLine_eq]; omega, acc ++ [y], by rw [List.length_append]; simp; omega, upd_same, h5 _ kb_upd upd_same⟩) (fun H4 h4 h5 => ⟨acc, by omega, h4, h5⟩)
/-- pairs laid anew, the heap told by what it holds -/
def YP (xs ys : Nat → Option V) : Nat → Hp → V → Hp → Prop := fun i H v H' => ∃ T x y, v = .ref T ∧ H T = none ∧ Same H H' ∧ H' T = some (.tup [x, y]) ∧ xs i = some x ∧ ys i = some y
/-- a comprehension that only makes: every item comes to what fs says (none: left out) -/
theorem lcF {fs0 : List V} (w : Walk J n G (YAt fs0)) (hn : n ≤ 16777216) (os : Nat → Option V) (hG : ∀ H', Same H1 H' → G H')
    (hs : ∀ i x H' (Z : VK) (N : Hp → Prop), i < n → fs0[i]? = some x → Same H1 H' → (∀ y H4, os i = some y → Same H' H4 → Z y H4) → (∀ H4, os i = none → Same H' H4 → N H4) →
        g x (wipe σ vs) H' fun σ2 H2 => wipe σ2 vs = wipe σ vs ∧ tt σ2 H2 fun b H3 => if b = true then te σ2 H3 Z else N H3)
    (hd : ∀ D H', H1 D = none → Same H1 H' → H' D = some (.lst ((List.range n).filterMap os)) → Q (.ref D) H') : LcG J g tt te vs σ H1 Q := by
  refine lcW w hn fun D H2 hD hs2 hv => ⟨fun i acc H => Same H1 H ∧ acc = (List.range i).filterMap os, ⟨hs2, rfl⟩, fun i acc H _ p => hG H p.1, fun i x acc H H' Z N hi p hDa hy hZ hN => ?_, fun acc H p hDa => hd D H hD p.1 (by rw [hDa, p.2])⟩
  obtain ⟨rfl, hx⟩ := hy
  refine hs i x H' Z N hi hx p.1 (fun y H4 e s4 => hZ y H4 (s4 _ _ hDa) fun H5 k5 h5 => ⟨?_, ?_⟩) (fun H4 e s4 => hN H4 (s4 _ _ hDa) ⟨p.1.trans s4, ?_⟩)
  · exact same_mut k5 (p.1.trans s4) hD
  · rw [List.range_succ, List.filterMap_append, ← p.2]
    simp [e]
  · rw [List.range_succ, List.filterMap_append, ← p.2]
    simp [e]
end
theorem range_get {α β : Type} (f : α → β) : ∀ l : List α, (List.range l.length).filterMap (fun i => (l[i]?).map f) = l.map f
  | [] => rfl
  | a :: l => by
    have ih := range_get f l
    rw [List.length_cons, List.range_succ_eq_map, List.filterMap_cons]
    simp only [List.getElem?_cons_zero, Option.map_some, List.filterMap_map, List.map_cons]
    rw [← ih]
    rfl
end RD

/-! nested data; what the laws' own comparison asks -/
namespace SPD
open PySem PySem.Spec PyProof.Rows L2

/-! ### kinds -/
inductive Kd where
  | non | bl | int | str | dct | lst | tup
  deriving DecidableEq
def Kd.ty : Kd → String
  | .non => "NoneType" | .bl => "bool" | .int => "int" | .str => "str" | .dct => "dict" | .lst => "list" | .tup => "tuple"
def Kd.sq : Kd → Bool
  | .lst => true | .tup => true | _ => false
inductive KdOf (K : PySem.W.Frag) (H : Hp) : V → Kd → Prop where
  | non : KdOf K H .non .non
  | bl (b : Bool) : KdOf K H (.bl b) .bl
  | int (i : Int) : KdOf K H (.int i) .int
  | str (x : Str) : KdOf K H (.str x) .str
  | dct {a : Addr} {kvs : List (Key × V)} (h : H a = some (.dK kvs)) : KdOf K H (.ref a) .dct
  | lst {a : Addr} {xs : List V} (h : H a = some (.lst xs)) : KdOf K H (.ref a) .lst
  | tup {a : Addr} {xs : List V} (h : H a = some (.tup xs)) : KdOf K H (.ref a) .tup
theorem KdOf.tyx {K : PySem.W.Frag} {H : Hp} {v : V} {k : Kd} (h : KdOf K H v k) : TyX K H v (.type k.ty) := by
  cases h with
  | non => exact .base .non
  | bl b => exact .base (.bl b)
  | int i => exact .base (.int i)
  | str x => exact .base (.str x)
  | dct h => exact .base (.dK h)
  | lst h => exact .base (.lst h)
  | tup h => exact .base (.tup h)
theorem kit_kd {K : PySem.W.Frag} (k : Kd) : PySem.W.kitOne K (.type k.ty) (.type "tuple") = some (decide (k = .tup)) ∧ PySem.W.kitOne K (.type k.ty) (.type "list") = some (decide (k = .lst)) ∧ PySem.W.kitOne K (.type k.ty) (.type "bool") = some (decide (k = .bl)) ∧ PySem.W.kitOne K (.type k.ty) (.type "str") = some (decide (k = .str)) := by
  cases k <;> exact ⟨kit_ty (by decide +kernel), kit_ty (by decide +kernel), kit_ty (by decide +kernel), kit_ty (by decide +kernel)⟩
theorem kit_int {K : PySem.W.Frag} (k : Kd) : PySem.W.kitOne K (.type k.ty) (.type "int") = some (decide (k = .int ∨ k = .bl)) := by
  cases k <;> exact kit_ty (by decide +kernel)
theorem kit_two {K : PySem.W.Frag} {t c d : Value} {a b : Bool} (h1 : PySem.W.kitOne K t c = some a) (h2 : PySem.W.kitOne K t d = some b) : PySem.W.kitAny K t [c, d] = some (a || b) := by
  refine kitAny_cons h1 (fun e => kitAny_cons h2 (fun e2 => ?_) fun e2 => ?_) fun e => ?_
  · rw [kitAny_nil, e, e2]
    rfl
  · rw [e, e2]
    rfl
  · rw [e]
    rfl
theorem kit_seq {K : PySem.W.Frag} (k : Kd) : PySem.W.kitAny K (.type k.ty) [.type "tuple", .type "list"] = some k.sq := by
  obtain ⟨h1, h2, _⟩ := kit_kd (K := K) k
  rw [kit_two h1 h2]
  cases k <;> rfl

/-! ### data: what is within stands apart from x -/
def leaf : V → Bool
  | .non => true | .bl _ => true | .int _ => true | .str z => Nat.ble z.cps.size 100000 | _ => false
inductive Dq (x : Addr) (H : Hp) : Nat → V → Prop where
  | leaf {n : Nat} {v : V} : leaf v = true → Dq x H n v
  | dct {n : Nat} {a : Addr} {kvs : List (Key × V)} : a ≠ x → H a = some (.dK kvs) → (kvs.map (·.1)).Nodup → (∀ p ∈ kvs, flatB p.2 = true) → Dq x H n (.ref a)
  | tup {n : Nat} {a : Addr} {xs : List V} : a ≠ x → H a = some (.tup xs) → xs.length ≤ 16777216 → (∀ y, y ∈ xs → Dq x H n y) → Dq x H (n + 1) (.ref a)
  | lst {n : Nat} {a : Addr} {xs : List V} : a ≠ x → H a = some (.lst xs) → xs.length ≤ 16777216 → (∀ y, y ∈ xs → Dq x H n y) → Dq x H (n + 1) (.ref a)
theorem Dq.kb {x : Addr} {H H' : Hp} (k : RD.KB x H H') {n : Nat} {v : V} (h : Dq x H n v) : Dq x H' n v := by
  induction h with
  | leaf e => exact .leaf e
  | dct ne h nd fl => exact .dct ne (k _ _ ne h) nd fl
  | tup ne h hl _ ih => exact .tup ne (k _ _ ne h) hl ih
  | lst ne h hl _ ih => exact .lst ne (k _ _ ne h) hl ih
theorem Dq.same {x : Addr} {H H' : Hp} (k : Same H H') {n : Nat} {v : V} (h : Dq x H n v) : Dq x H' n v := h.kb (RD.Same.kb k)
theorem Dq.mono {x : Addr} {H : Hp} {n : Nat} {v : V} (h : Dq x H n v) : ∀ m, n ≤ m → Dq x H m v := by
  induction h with
  | leaf e => exact fun m _ => .leaf e
  | dct ne h nd fl => exact fun m _ => .dct ne h nd fl
  | tup ne h hl _ ih =>
    intro m hm
    obtain ⟨k, rfl⟩ : ∃ k, m = k + 1 := ⟨m - 1, by omega⟩
    exact .tup ne h hl fun y hy => ih y hy k (by omega)
  | lst ne h hl _ ih =>
    intro m hm
    obtain ⟨k, rfl⟩ : ∃ k, m = k + 1 := ⟨m - 1, by omega⟩
    exact .lst ne h hl fun y hy => ih y hy k (by omega)
theorem Dq.kd {K : PySem.W.Frag} {x : Addr} {H : Hp} {n : Nat} {v : V} (h : Dq x H n v) : ∃ k, KdOf K H v k := by
  cases h with
  | leaf e =>
    cases v with
    | non => exact ⟨_, .non⟩
    | bl b => exact ⟨_, .bl b⟩
    | int i => exact ⟨_, .int i⟩
    | str z => exact ⟨_, .str z⟩
    | byt b => cases e
    | flt b => cases e
    | ref a => cases e
    | ty s => cases e
  | dct ne h nd fl => exact ⟨_, .dct h⟩
  | tup ne h _ => exact ⟨_, .tup h⟩
  | lst ne h _ => exact ⟨_, .lst h⟩

/-! ### == of what is no list, no tuple; the laws' own comparison -/
inductive EqB (K : PySem.W.Frag) (H : Hp) : V → V → Bool → Prop where
  | scal {x y : V} : scal x y = true → EqB K H x y (decide (x = y))
  | deep {x y : V} {d e : PyData} : Dp K H x d → Dp K H y e → SeqAt.shaped d = true → SeqAt.shaped e = true → EqB K H x y (PyData.eqv d e)
  | dict {a : Addr} {kvs : List (Key × V)} : H a = some (.dK kvs) → (kvs.map (·.1)).Nodup → (∀ p ∈ kvs, flatB p.2 = true) → EqB K H (.ref a) (.ref a) true
/-- what told, due come to: b -/
inductive IsB (K : PySem.W.Frag) (H : Hp) : Nat → V → V → Bool → Prop where
  | leaf {n : Nat} {x y : V} {s t : Kd} {b : Bool} : KdOf K H x s → KdOf K H y t → t.sq = false → decide (s = .bl) = decide (t = .bl) → EqB K H x y b → IsB K H n x y b
  | bool {n : Nat} {x y : V} {s t : Kd} : KdOf K H x s → KdOf K H y t → t.sq = false → decide (s = .bl) ≠ decide (t = .bl) → IsB K H n x y false
  | kind {n : Nat} {x y : V} {s t : Kd} : KdOf K H x s → KdOf K H y t → t.sq = true → s ≠ t → IsB K H n x y false
  | lenL {n : Nat} {a b : Addr} {xs ys : List V} : H a = some (.lst xs) → H b = some (.lst ys) → xs.length ≠ ys.length → IsB K H n (.ref a) (.ref b) false
  | lenT {n : Nat} {a b : Addr} {xs ys : List V} : H a = some (.tup xs) → H b = some (.tup ys) → xs.length ≠ ys.length → IsB K H n (.ref a) (.ref b) false
  | lst {n : Nat} {a b : Addr} {xs ys : List V} {bs : List Bool} : H a = some (.lst xs) → H b = some (.lst ys) → xs.length = ys.length → bs.length = xs.length → xs.length ≤ 16777216 → (∀ (i : Nat) (x y : V) (c : Bool), xs[i]? = some x → ys[i]? = some y → bs[i]? = some c → IsB K H n x y c) → IsB K H (n + 1) (.ref a) (.ref b) (bs.all id)
  | tup {n : Nat} {a b : Addr} {xs ys : List V} {bs : List Bool} : H a = some (.tup xs) → H b = some (.tup ys) → xs.length = ys.length → bs.length = xs.length → xs.length ≤ 16777216 → (∀ (i : Nat) (x y : V) (c : Bool), xs[i]? = some x → ys[i]? = some y → bs[i]? = some c → IsB K H n x y c) → IsB K H (n + 1) (.ref a) (.ref b) (bs.all id)
mutual
theorem Dp.same {K : PySem.W.Frag} {H H' : Hp} (s : Same H H') {v : V} {d : PyData} : Dp K H v d → Dp K H' v d
  | .non => .non
  | .bl b => .bl b
  | .int i => .int i
  | .str x => .str x
  | .lst h a => .lst (s.seq h) (DpAll.same s a)
  | .tup h a => .tup (RD.Same.tup s h) (DpAll.same s a)
theorem DpAll.same {K : PySem.W.Frag} {H H' : Hp} (s : Same H H') {vs : List V} {ds : List PyData} : DpAll K H vs ds → DpAll K H' vs ds
  | .nil => .nil
  | .cons h a => .cons (Dp.same s h) (DpAll.same s a)
end
theorem KdOf.same {K : PySem.W.Frag} {H H' : Hp} (s : Same H H') {v : V} {k : Kd} (h : KdOf K H v k) : KdOf K H' v k := by
  cases h with
  | non => exact .non
  | bl b => exact .bl b
  | int i => exact .int i
  | str x => exact .str x
  | dct h => exact .dct (s _ _ h)
  | lst h => exact .lst (s _ _ h)
  | tup h => exact .tup (s _ _ h)
theorem EqB.same {K : PySem.W.Frag} {H H' : Hp} (s : Same H H') {x y : V} {b : Bool} (h : EqB K H x y b) : EqB K H' x y b := by
  cases h with
  | scal e => exact .scal e
  | deep d e p q => exact .deep (Dp.same s d) (Dp.same s e) p q
  | dict h nd fl => exact .dict (s _ _ h) nd fl
theorem IsB.same {K : PySem.W.Frag} {H H' : Hp} (s : Same H H') {n : Nat} {x y : V} {b : Bool} (h : IsB K H n x y b) : IsB K H' n x y b := by
  induction h with
  | leaf a b c d e => exact .leaf (a.same s) (b.same s) c d (e.same s)
  | bool a b c d => exact .bool (a.same s) (b.same s) c d
  | kind a b c d => exact .kind (a.same s) (b.same s) c d
  | lenL a b c => exact .lenL (s _ _ a) (s _ _ b) c
  | lenT a b c => exact .lenT (s _ _ a) (s _ _ b) c
  | lst a b c d e _ ih => exact .lst (s _ _ a) (s _ _ b) c d e ih
  | tup a b c d e _ ih => exact .tup (s _ _ a) (s _ _ b) c d e ih
theorem all_rep (n : Nat) : (List.replicate n true).all id = true := by
  induction n with
  | zero => rfl
  | succ n ih => rw [List.replicate_succ, List.all_cons, ih]; rfl
/-- data is what it is -/
theorem IsB.refl {K : PySem.W.Frag} {x : Addr} {H : Hp} {n : Nat} {v : V} (h : Dq x H n v) : IsB K H n v v true := by
  induction h with
  | @leaf n v e =>
    have key : ∀ k : Kd, KdOf K H v k → k.sq = false → scal v v = true → IsB K H n v v true := fun k hk hs hc => by
      have z : EqB K H v v (decide (v = v)) := .scal hc
      rw [decide_eq_true rfl] at z
      exact .leaf hk hk hs rfl z
    cases v with
    | non => exact key _ .non rfl rfl
    | bl b => exact key _ (.bl b) rfl rfl
    | int i => exact key _ (.int i) rfl rfl
    | str z => exact key _ (.str z) rfl rfl
    | byt b => cases e
    | flt b => cases e
    | ref a => cases e
    | ty s => cases e
  | dct ne h nd fl => exact .leaf (.dct h) (.dct h) rfl rfl (.dict h nd fl)
  | @tup n a xs ne h hl _ ih =>
    have z := IsB.tup (K := K) (n := n) (bs := List.replicate xs.length true) h h rfl (by rw [List.length_replicate]) hl fun i x y c e1 e2 e3 => by
      rw [e1] at e2
      cases e2
      rw [List.getElem?_replicate] at e3
      split at e3
      · cases e3
        exact ih x (List.mem_of_getElem? e1)
      · cases e3
    rw [all_rep] at z
    exact z
  | @lst n a xs ne h hl _ ih =>
    have z := IsB.lst (K := K) (n := n) (bs := List.replicate xs.length true) h h rfl (by rw [List.length_replicate]) hl fun i x y c e1 e2 e3 => by
      rw [e1] at e2
      cases e2
      rw [List.getElem?_replicate] at e3
      split at e3
      · cases e3
        exact ih x (List.mem_of_getElem? e1)
      · cases e3
    rw [all_rep] at z
    exact z
/-- the operator == that these ask -/
def rEqB (K : PySem.W.Frag) : R2 := fun x y H Q => ∃ b, EqB K H x y b ∧ Q (.bl b) H
section
variable {K : PySem.W.Frag} {H : Hp} {Q : VK} {x : V} {k : Kd}
theorem isSeq {tp : Addr} (ht : H tp = some (.tup [.ty "tuple", .ty "list"])) (hk : KdOf K H x k) (h : Q (.bl k.sq) H) : rIsiT K [x, .ref tp] H Q :=
  ⟨x, tp, _, _, _, _, rfl, ht, .cons (.ty _) (.cons (.ty _) .nil), hk.tyx, kit_seq k, h⟩
theorem isTup (hk : KdOf K H x k) (h : Q (.bl (decide (k = .tup))) H) : rIsi K [x, .ty "tuple"] H Q := ⟨x, _, _, _, _, rfl, .ty _, hk.tyx, (kit_kd k).1, h⟩
theorem isLst (hk : KdOf K H x k) (h : Q (.bl (decide (k = .lst))) H) : rIsi K [x, .ty "list"] H Q := ⟨x, _, _, _, _, rfl, .ty _, hk.tyx, (kit_kd k).2.1, h⟩
theorem isBool (hk : KdOf K H x k) (h : Q (.bl (decide (k = .bl))) H) : rIsi K [x, .ty "bool"] H Q := ⟨x, _, _, _, _, rfl, .ty _, hk.tyx, (kit_kd k).2.2.1, h⟩
theorem isStr (hk : KdOf K H x k) (h : Q (.bl (decide (k = .str))) H) : rIsi K [x, .ty "str"] H Q := ⟨x, _, _, _, _, rfl, .ty _, hk.tyx, (kit_kd k).2.2.2, h⟩
theorem isInt (hk : KdOf K H x k) (h : Q (.bl (decide (k = .int ∨ k = .bl))) H) : rIsi K [x, .ty "int"] H Q := ⟨x, _, _, _, _, rfl, .ty _, hk.tyx, kit_int k, h⟩
end
section
variable {K : PySem.W.Frag} {a b : Addr} {xs ys : List V}
theorem izipA {tx : TA} {σ : L2.St} {H : Hp} {R : It → Hp → Prop} (h : tx σ H fun vs H1 => ∃ a b xs ys, vs = [.ref a, .ref b] ∧ ((SqL K H1 a xs ∧ SqL K H1 b ys ∧ R (Itz K a b) H1) ∨ (SqT K H1 a xs ∧ SqT K H1 b ys ∧ R (RZ.ItzT K a b) H1))) : RZ.iZipA K tx σ H R := h
end
/-! ### many data at once -/
inductive DqA (x : Addr) (H : Hp) (n : Nat) : List V → Prop where
  | nil : DqA x H n []
  | cons {v : V} {vs : List V} : Dq x H n v → DqA x H n vs → DqA x H n (v :: vs)
theorem DqA.mem {x : Addr} {H : Hp} {n : Nat} {vs : List V} (h : DqA x H n vs) : ∀ y, y ∈ vs → Dq x H n y := by
  induction h with
  | nil => exact fun y hy => nomatch hy
  | cons a _ ih =>
    intro y hy
    rcases List.mem_cons.mp hy with e | e
    · rw [e]; exact a
    · exact ih y e
theorem DqA.app {x : Addr} {H : Hp} {n : Nat} {vs ws : List V} (h : DqA x H n vs) (g : DqA x H n ws) : DqA x H n (vs ++ ws) := by
  induction h with
  | nil => exact g
  | cons a _ ih => exact .cons a ih
theorem dq_kb {x : Addr} {H H' : Hp} {n : Nat} {v : V} (h : Dq x H n v) (k : RD.KB x H H') : Dq x H' n v := h.kb k
theorem dqTup {x : Addr} {H : Hp} {n : Nat} {a : Addr} {xs : List V} (h : H a = some (.tup xs)) (ne : a ≠ x) (g : DqA x H n xs) (e : Nat.ble xs.length 16777216 = true := by rfl) : Dq x H (n + 1) (.ref a) := .tup ne h (Nat.le_of_ble_eq_true e) g.mem
theorem dqLst {x : Addr} {H : Hp} {n : Nat} {a : Addr} {xs : List V} (h : H a = some (.lst xs)) (ne : a ≠ x) (g : DqA x H n xs) (e : Nat.ble xs.length 16777216 = true := by rfl) : Dq x H (n + 1) (.ref a) := .lst ne h (Nat.le_of_ble_eq_true e) g.mem
theorem dqNil {x : Addr} {H : Hp} {n : Nat} {a : Addr} {kvs : List (Key × V)} (h : H a = some (.dK kvs)) (ne : a ≠ x) (nd : (kvs.map (·.1)).Nodup) (fl : ∀ p ∈ kvs, flatB p.2 = true) : Dq x H n (.ref a) := .dct ne h nd fl
/-- a written dict of constants -/
theorem dispC {trs : List (TE × TE)} {σ : L2.St} {H : Hp} {Q : VK} (kvs : List (Key × V)) (hps : ∀ H (QP : List (V × V) → Hp → Prop), QP (kvs.map fun kv => (kV kv.1, kv.2)) H → tPairs trs σ H QP) (hk : kvs.length ≤ 15)
    (h : ∀ p H2, H p = none → Same H H2 → H2 p = some (.dK (mergeK [] kvs)) → Q (.ref p) H2) : tDisp trs σ H Q := fun p hp =>
  hps _ _ ⟨upd_same, kvs, rfl, hk, by rw [upd_upd]; exact h p _ hp (RD.same_new hp) upd_same⟩
theorem dnew {σ : L2.St} {H : Hp} {Q : VK} (h : ∀ p H2, H p = none → Same H H2 → H2 p = some (.dK []) → Q (.ref p) H2) : tDNewK σ H Q := fun p hp => h p _ hp (RD.same_new hp) upd_same
theorem disp1 {k : Str} {v : V} {σ : L2.St} {H : Hp} {Q : VK} (h : ∀ p H2, H p = none → Same H H2 → H2 p = some (.dK [(Sum.inr k, v)]) → Q (.ref p) H2) : tDisp [(tC (.str k), tC v)] σ H Q :=
  dispC [(Sum.inr k, v)] (fun _ _ q => q) (by show 1 ≤ 15; decide) h
end SPD

/-! sorted(set(text)) -/
namespace SST
open PySem PySem.Spec PyProof.Rows PySem.Froz L2
theorem addTx_shape (h : Int) (v : Value) (D : SD) (r : Ris D.2.2.place.toList) : Ris (addTx h v D).2.2.place.toList ∧ (addTx h v D).2.2.led = D.2.2.led := by
  obtain ⟨es, ep, t⟩ := D
  have r1 := layNew_ris t es h v r
  have l1 := layNew_led t es h v
  show Ris (tailTx ep (layNew t es h v).1 (if (layNew t es h v).2.1.plain = true then { (layNew t es h v).2.1 with plain := false } else (layNew t es h v).2.1) (layNew t es h v).2.2.1).2.2.place.toList ∧
    (tailTx ep (layNew t es h v).1 (if (layNew t es h v).2.1.plain = true then { (layNew t es h v).2.1 with plain := false } else (layNew t es h v).2.1) (layNew t es h v).2.2.1).2.2.led = t.led
  generalize layNew t es h v = Z at r1 l1 ⊢
  obtain ⟨e1, t1, b1, b2⟩ := Z
  dsimp only at r1 l1 ⊢
  have key : ∀ t2 : SetTable, Ris t2.place.toList → t2.led = t.led → Ris (tailTx ep e1 t2 b1).2.2.place.toList ∧ (tailTx ep e1 t2 b1).2.2.led = t.led := fun t2 g1 g2 => by
    unfold tailTx
    split
    · exact ⟨relayAll_ris _ _ _, (relayAll_led _ _ _).trans g2⟩
    · exact ⟨g1, g2⟩
  split
  · exact key _ r1 l1
  · exact key _ r1 l1
/-- the set of texts at a: its members l -/
def SetT (P : Program) (w : World) (h : Heap) (a : Addr) (l : List Str) : Prop := ∃ D, h.get? a = some (sObj "set" D) ∧ TxOk P w D l ∧ l.Nodup ∧ Ris D.2.2.place.toList ∧ (w.params.followText "set-order" = true ∨ D.2.2.led = true)
section
variable {P : Program} {w : World} {A : Around} {E : Value → Shared → Prop} {s : Shared} {a : Addr}
theorem SetT.at {h h' : Heap} {l : List Str} (R : SetT P w h a l) (k : ∀ o, h.get? a = some o → h'.get? a = some o) : SetT P w h' a l := by
  obtain ⟨D, ho, r⟩ := R
  exact ⟨D, k _ ho, r⟩
/-- one more met -/
def met (k : Str) (l : List Str) : List Str := if k ∈ l then l else k :: l
theorem add_any {l : List Str} {k : Str} {u : Tok} {Q : Bool → Shared → Prop} (R : SetT P w s.heap a l) (hb : l.length + 1 < scanBound)
    (h : ∀ h' b, (∀ c o, c ≠ a → s.heap.get? c = some o → h'.get? c = some o) → SetT P w h' a (met k l) → Q b { s with heap := h' }) : wpAny (model P w) A (setAddHashed a (.str k u) (hashStr w k)) Q E s := by
  obtain ⟨D, ho, F, nd, r, hl⟩ := R
  by_cases hk : k ∈ l
  · have hmet : met k l = l := if_pos hk
    rw [hmet] at h
    have h0 := h s.heap false (fun _ _ _ e => e) ⟨D, ho, F, nd, r, hl⟩
    obtain ⟨es, ep, t⟩ := D
    have hd : (sObj "set" (es, ep, t)).data = .set es ep t := rfl
    have hel : ElemsOf (strKind P w) es.toList := F.el
    have hf : t.fits es.size = true := F.fit
    have hz : es.size = l.length := F.sz
    obtain ⟨e, he, hek⟩ := (F.mem k).mp hk
    unfold setAddHashed setAddHashedIn
    refine wpAny_holding (wpAny_bind (wpAny_setState_of ho hd hf ?_))
    dsimp only
    rw [byScan_of (x := Value.str k u) rfl (by omega) hel]
    simp only [↓reduceIte]
    unfold setAddByScan
    refine wpAny_bind (wpAny_bind (wpAny_rule (wpAny_bind (wpAny_setScan_of (knd := strKind P w) (k := k) (is_str k u) ho hd hf hel ?_))))
    cases hfi : es.toList.findIdx? (fun e => (strKind P w).is k e.2) with
    | none =>
      have z := List.findIdx?_eq_none_iff.mp hfi e he
      rw [hek] at z
      cases z
    | some j =>
      dsimp only
      exact wpAny_pure (wpAny_pure h0)
  · have hmet : met k l = k :: l := if_neg hk
    rw [hmet] at h
    have sh := addTx_shape (hashStr w k) (.str k u) D r
    refine add_x ho F hk hb (h _ true (fun c o hc e => PySem.Heap.get?_update_of_ne _ (Ne.symm hc) e) ⟨_, get_upd _ ho rfl, add_ok u F, List.nodup_cons.mpr ⟨hk, nd⟩, sh.1, ?_⟩)
    rw [sh.2]
    exact hl
def mets (val : Nat → Str) : Nat → List Str
  | 0 => []
  | i + 1 => met (val i) (mets val i)
theorem mets_len (val : Nat → Str) : ∀ i, (mets val i).length ≤ i
  | 0 => Nat.le_refl _
  | i + 1 => by
    have z := mets_len val i
    show (met (val i) (mets val i)).length ≤ i + 1
    unfold met
    split
    · omega
    · rw [List.length_cons]; omega
theorem mets_mem (val : Nat → Str) (k : Str) : ∀ i, k ∈ mets val i ↔ ∃ j, j < i ∧ val j = k
  | 0 => ⟨fun h => (List.not_mem_nil h).elim, fun ⟨j, h, _⟩ => absurd h (Nat.not_lt_zero _)⟩
  | i + 1 => by
    have ih := mets_mem val k i
    have e : k ∈ met (val i) (mets val i) ↔ k ∈ mets val i ∨ k = val i := by
      unfold met
      split
      · rename_i h
        exact ⟨.inl, fun z => z.elim id fun e => e ▸ h⟩
      · rw [List.mem_cons]
        exact Or.comm
    show k ∈ met (val i) (mets val i) ↔ _
    rw [e, ih]
    constructor
    · rintro (⟨j, h1, h2⟩ | rfl)
      · exact ⟨j, by omega, h2⟩
      · exact ⟨i, by omega, rfl⟩
    · rintro ⟨j, h1, h2⟩
      rcases Nat.lt_succ_iff_lt_or_eq.mp h1 with h | h
      · exact .inl ⟨j, h, h2⟩
      · subst h
        exact .inr h2.symm
theorem fill {R : Result → Shared → Prop} {it : Addr} {fp wr : List Addr} {G : Array GenState → Array GenState → Prop} {n : Nat} {Pv : Nat → Value → Prop} {St : Nat → Shared → Prop} (W : WalksS P w A.in1 it fp wr G n Pv St) (hf : a ∉ fp) (val : Nat → Str)
    (hv : ∀ i v, Pv i v → ∃ t, v = .str (val i) t) (hn : n + 1 < scanBound) : ∀ (m i : Nat) (s : Shared), n - i = m → i ≤ n → St i s → SetT P w s.heap a (mets val i) →
      (∀ s', Moved (a :: wr) G s s' → SetT P w s'.heap a (mets val n) → R (.ok (.ret .none)) s') → codeAny (model P w) A (.builtin "set.update.loop" ⟨[.ref a, .ref it], []⟩) R s := by
  have aw : a ∉ wr := fun z => hf (W.sub _ z)
  have up : ∀ b ∈ wr, b ∈ a :: wr := fun b z => List.mem_cons_of_mem _ z
  intro m
  induction m with
  | zero =>
    intro i s hm hi hs hS hR
    obtain rfl : i = n := by omega
    refine codeAny_builtin PyProof.Rows.F.entry_set_update_loop ?_
    rw [Around.under_plainId PyProof.Rows.F.plain_set_update_loop _]
    show wpAny _ A.in1 (pyNext (.ref it) >>= _) _ _ s
    refine wpAny_bind (W.done s _ _ hs fun s' mv => wpAny_pure (hR s' (mv.mono up) (hS.at fun o e => mv.heap a o aw e)))
  | succ m ih =>
    intro i s hm hi hs hS hR
    have lt : i < n := by omega
    refine codeAny_builtin PyProof.Rows.F.entry_set_update_loop ?_
    rw [Around.under_plainId PyProof.Rows.F.plain_set_update_loop _]
    show wpAny _ A.in1 (pyNext (.ref it) >>= _) _ _ s
    refine wpAny_bind (W.item i s _ _ lt hs fun v s1 hP hs1 mv => ?_)
    obtain ⟨t, rfl⟩ := hv i v hP
    have hS1 : SetT P w s1.heap a (mets val i) := hS.at fun o e => mv.heap a o aw e
    have room : (mets val i).length + 1 < scanBound := by
      have := mets_len val i
      omega
    show wpAny _ A.in1 (holding [Value.str (val i) t] (setAdd a (.str (val i) t)) >>= _) _ _ s1
    refine wpAny_bind (wpAny_holding ?_)
    unfold setAdd
    refine wpAny_holding (wpAny_bind ((strKind P w).pyHash (k := val i) (is_str _ _) ?_))
    refine add_any (s := { s1 with toks := s1.toks + 1 }) hS1 room fun h' b kp hS2 => ?_
    refine wpAny_pure ⟨plainId_quiet PyProof.Rows.F.plain_set_update_loop _, ih (i + 1) _ (by omega) lt (W.frame _ s1 _ _ hs1 (Nat.le_succ _) fun c hc o e => ?_) hS2 fun s2 mv2 hS3 => hR s2 (Moved.trans W.gtrans ((mv.mono up).then_heap (Nat.le_succ _) fun c o hc e => ?_) mv2) hS3⟩
    · exact kp c o (fun z => hf (z ▸ hc)) e
    · exact kp c o (fun z => hc (by rw [z]; exact List.mem_cons_self)) e
/-- the set made of one argument, its table's kind told -/
theorem new_led (x : Value) {Q : Value → Shared → Prop}
    (h : Q (.ref s.heap.objs.size) { s with heap := s.heap.push { cls := .type "set", dict := none, data := .set #[] 0 (.fresh 0 0 (!w.params.followText "set-order")) } }) :
    codeAny (model P w) A (.call (.builtin "set.__new__") ⟨[.type "set", x], []⟩) (wants Q E) s := by
  refine codeAny_of_tree ?_
  show wpAny _ A.in1 (do checkBuiltinCall "set.__new__" ⟨[.type "set", x], []⟩; again (.builtin "set.__new__" ⟨[.type "set", x], []⟩)) _ _ s
  refine wpAny_bind (wpAny_of_eq (PySem.F.newCall_set_1 x) (wpAny_pure ⟨plainId_quiet PySem.F.plain_set_new _, codeAny_builtin PySem.F.entry_set_new ?_⟩))
  rw [Around.under_plainId PySem.F.plain_set_new _]
  unfold Builtin.«set.__new__» Builtin.Frozenset.newClass
  have hsub := sub_set_self
  obtain ⟨hp, g, d, tk, os⟩ := s
  dsimp only
  wp_walk
  refine wpAny_askSetting (wpAny_pure ?_)
  dsimp only
  simp only [newObj]
  exact wpAny_bind (wpAny_alloc (wpAny_pure (wpAny_pure h)))
theorem fresh_ok {h : Heap} : SetT P w (h.push { cls := .type "set", dict := none, data := .set #[] 0 (.fresh 0 0 (!w.params.followText "set-order")) }) h.objs.size [] := by
  refine ⟨(#[], 0, .fresh 0 0 (!w.params.followText "set-order")), Heap.get?_push_size _ rfl, TxOk.nil rfl, List.nodup_nil, List.Pairwise.nil, ?_⟩
  show _ ∨ (!w.params.followText "set-order") = true
  cases w.params.followText "set-order"
  · exact .inr rfl
  · exact .inl rfl
/-- what a text's signs come to, in a set -/
def signs (x : Str) : Nat → Str := fun i => ⟨#[x.cps.getD i 0]⟩
theorem sub_str_set : isSubtype (.type "str") (.type "set") = pure false := by rw [isSubtype_type]; kernel_rfl
theorem sub_str_froz : isSubtype (.type "str") (.type "frozenset") = pure false := by rw [isSubtype_type]; kernel_rfl
theorem set_str {x : Str} {u : Tok} {Q : Value → Shared → Prop} (hh : A.handled = none) (hn : x.cps.size + 1 < scanBound)
    (h : ∀ (h' : Heap) (tk : Nat), (∀ b o, s.heap.get? b = some o → h'.get? b = some o) → s.heap.objs.size < h'.objs.size → SetT P w h' s.heap.objs.size (mets (signs x) x.cps.size) → Q (.ref s.heap.objs.size) { s with heap := h', toks := tk }) :
    wpAny (model P w) A (call (.type "set") [.str x u]) Q E s := by
  obtain ⟨c, tl, hmro⟩ := PySem.F.called_set.mro
  have hmade := PySem.F.called_set.made
  have hsub := PySem.F.called_set.sub
  refine wpAny_call (codeAny_of_tree ?_)
  show wpAny _ _ (callAny (.type "set") _) _ _ _
  refine wpAny_pure ⟨Code.quiet_builtin _ (by decide +kernel), codeAny_builtin PySem.F.entry_type_call ?_⟩
  rw [Around.under_plain (weight_type_call_type "set" [.str x u] []) rfl]
  have h1 := PySem.F.called_set.notType
  have h2 := PySem.F.called_set.canCreate
  have hct := PySem.F.typeCall_set_1 (.str x u)
  repeat (any_goals (first | assumption | wp_step))
  refine codeAny_mono (new_led (.str x u) (E := E) (Q := fun obj s₁ => obj = .ref s.heap.objs.size ∧ s₁ = { s with heap := s.heap.push { cls := .type "set", dict := none, data := .set #[] 0 (.fresh 0 0 (!w.params.followText "set-order")) } }) ⟨rfl, rfl⟩) fun r s1 hr => ?_
  cases r with
  | error e => exact hr
  | ok fl =>
    cases fl with
    | ret obj =>
      obtain ⟨rfl, rfl⟩ := hr
      have F0 : SetT P w (s.heap.push { cls := .type "set", dict := none, data := .set #[] 0 (.fresh 0 0 (!w.params.followText "set-order")) }) s.heap.objs.size [] := fresh_ok
      have hS : (s.heap.push { cls := .type "set", dict := none, data := .set #[] 0 (.fresh 0 0 (!w.params.followText "set-order")) }).get? s.heap.objs.size = some { cls := .type "set", dict := none, data := .set #[] 0 (.fresh 0 0 (!w.params.followText "set-order")) } := Heap.get?_push_size _ rfl
      have old : ∀ b o, s.heap.get? b = some o → (s.heap.push { cls := .type "set", dict := none, data := .set #[] 0 (.fresh 0 0 (!w.params.followText "set-order")) }).get? b = some o := fun b o e => Heap.get?_push_of_some _ e
      have hsz : (s.heap.push { cls := .type "set", dict := none, data := .set #[] 0 (.fresh 0 0 (!w.params.followText "set-order")) }).objs.size = s.heap.objs.size + 1 := Heap.size_push ..
      generalize s.heap.push { cls := .type "set", dict := none, data := .set #[] 0 (.fresh 0 0 (!w.params.followText "set-order")) } = hp at F0 hS old hsz ⊢
      have hT : Shared.TypeIs { s with heap := hp } (.ref s.heap.objs.size) "set" := ⟨_, hS, rfl⟩
      have hli := PySem.F.called_set.init.lookup
      have hbi := PySem.F.called_set.init.bind (.ref s.heap.objs.size)
      repeat (any_goals (first | assumption | wp_step))
      refine codeAny_mono (codeAny_call_builtin (R := wants (fun r s₂ => r = .none ∧ ∃ h' tk, s₂ = { s with heap := h', toks := tk } ∧ (∀ b o, s.heap.get? b = some o → h'.get? b = some o) ∧ s.heap.objs.size < h'.objs.size ∧ SetT P w h' s.heap.objs.size (mets (signs x) x.cps.size)) E)
        PySem.F.called_set.init.plain PySem.F.entry_set_init (check_set_init_1 hT ?_)) fun r2 s2 hr2 => ?_
      · unfold Builtin.«set.__init__» noKeywords Builtin.Frozenset.updateFrom
        have q1 := sub_str_set
        have q2 := sub_str_froz
        have q3 : (Value.type "str" == Value.type "dict") = false := by decide
        generalize hPI : pyIter = PI
        wp_walk
        subst hPI
        refine wpAny_pyIter_str fun o St hW hst => ?_
        refine wpAny_bind (wpAny_runValue ?_)
        have na : s.heap.objs.size ∉ [hp.objs.size] := by
          rw [hsz, List.mem_singleton]
          exact Nat.ne_of_lt (Nat.lt_succ_self _)
        have hh3 : A.in1.in1.in1.handled = none := by simp [hh]
        refine fill (hW _ hh3).toS na (signs x) (fun i v hv => ?_) hn (x.cps.size - 0) 0 _ rfl (Nat.zero_le _) hst (F0.at fun o e => Heap.get?_push_of_some _ e) fun s3 mv hS3 => ?_
        · obtain ⟨c, t, hc, rfl⟩ := hv
          refine ⟨t, ?_⟩
          unfold signs
          rw [Array.getD_eq_getD_getElem?, hc]
          rfl
        · have keep : ∀ b o, s.heap.get? b = some o → s3.heap.get? b = some o := fun b o e => by
            have lt := Heap.lt_size e
            refine mv.heap b o (fun z => ?_) (Heap.get?_push_of_some _ (old b o e))
            rcases List.mem_cons.mp z with z | z
            · exact absurd z (Nat.ne_of_lt lt)
            · have z := List.mem_singleton.mp z
              rw [hsz] at z
              exact absurd z (Nat.ne_of_lt (Nat.lt_succ_of_lt lt))
          have grow : s.heap.objs.size < s3.heap.objs.size := by
            obtain ⟨D, hD, _⟩ := hS3
            exact Heap.lt_size hD
          obtain ⟨h3, g3, d3, tk3, os3⟩ := s3
          obtain rfl : g3 = s.gens := mv.gens
          obtain rfl : d3 = s.drawn := mv.drawn
          obtain rfl : os3 = s.os := mv.os
          exact wpAny_pure (wpAny_pure ⟨rfl, h3, tk3, rfl, keep, grow, hS3⟩)
      · cases r2 with
        | error e => exact hr2
        | ok fl2 =>
          cases fl2 with
          | ret r =>
            obtain ⟨rfl, h', tk, rfl, k1, k2, k3⟩ := hr2
            repeat (any_goals (first | assumption | wp_step))
            exact h _ _ k1 k2 k3
          | _ => exact hr2.elim
    | _ => exact hr.elim
/-! what is unlike and of the same number -/
theorem perm_of {α : Type} [DecidableEq α] : ∀ (l ks : List α), l.Nodup → (∀ x, x ∈ l → x ∈ ks) → ks.length = l.length → ks.Perm l
  | [], ks, _, _, e => by
    rw [List.eq_nil_of_length_eq_zero e]
  | x :: r, ks, nd, sub, e => by
    have hx : x ∈ ks := sub x List.mem_cons_self
    obtain ⟨nx, nr⟩ := List.nodup_cons.mp nd
    have p := List.perm_cons_erase hx
    have ih := perm_of r (ks.erase x) nr (fun y hy => (List.mem_erase_of_ne (fun z => nx (by rw [← z]; exact hy))).mpr (sub y (List.mem_cons_of_mem _ hy))) (by
      rw [List.length_erase_of_mem hx, e, List.length_cons]
      rfl)
    exact p.trans (ih.cons x)
def nameOf (e : Int × Value) : Str := match e.2 with | .str k _ => k | _ => Str.empty
theorem keys_perm {D : SD} {l : List Str} (F : TxOk P w D l) (nd : l.Nodup) : (∀ e ∈ D.1.toList, ∃ t, e.2 = .str (nameOf e) t) ∧ (D.1.toList.map nameOf).Perm l := by
  have g : ∀ e ∈ D.1.toList, ∃ t, e.2 = .str (nameOf e) t := fun e he => by
    obtain ⟨⟨k, hk, _⟩, _⟩ := F.el e he
    obtain ⟨t, ht⟩ := Value.isStrOf_shape hk
    exact ⟨t, by unfold nameOf; rw [ht]⟩
  refine ⟨g, perm_of _ _ nd (fun x hx => ?_) (by rw [List.length_map, Array.length_toList]; exact F.sz)⟩
  obtain ⟨e, he, hk⟩ := (F.mem x).mp hx
  obtain ⟨t, ht⟩ := Value.isStrOf_shape hk
  exact List.mem_map.mpr ⟨e, he, by unfold nameOf; rw [ht]⟩
theorem strs_of : ∀ (l : List (Int × Value)), (∀ e ∈ l, ∃ t, e.2 = .str (nameOf e) t) → StrsAre (l.map (·.2)) (l.map nameOf)
  | [], _ => .nil
  | e :: l, h => by
    obtain ⟨t, ht⟩ := h e List.mem_cons_self
    rw [List.map_cons, List.map_cons, ht]
    exact .cons _ t (strs_of l fun e he => h e (List.mem_cons_of_mem _ he))
theorem strs_perm {vs us : List Value} {xs : List Str} (p : vs.Perm us) (h : StrsAre us xs) : ∃ ys, StrsAre vs ys ∧ ys.Perm xs := by
  induction p generalizing xs with
  | nil => exact ⟨xs, h, List.Perm.refl _⟩
  | cons x _ ih =>
    cases h with
    | cons y t h =>
      obtain ⟨ys, h1, h2⟩ := ih h
      exact ⟨_, .cons y t h1, h2.cons y⟩
  | swap x y l =>
    cases h with
    | cons a t h =>
      cases h with
      | cons b u h => exact ⟨_, .cons b u (.cons a t h), List.Perm.swap _ _ _⟩
  | trans p q ih1 ih2 =>
    obtain ⟨ys, h1, h2⟩ := ih2 h
    obtain ⟨zs, h3, h4⟩ := ih1 h1
    exact ⟨zs, h3, h4.trans h2⟩
theorem sorted_setT {l : List Str} {Q : Value → Shared → Prop} (R : SetT P w s.heap a l) (hh : A.handled = none) (hb : l.length < scanBound)
    (hQ : ∀ s' p (out : Array Value) (c : Nat) (ys : List Str), (∀ b o, s.heap.get? b = some o → s'.heap.get? b = some o) → s'.gens = s.gens → s'.os = s.os → s.heap.objs.size ≤ p →
      s'.heap.get? p = some (seqObj "list" out c) → StrsAre out.toList ys → ys.Perm l → sortedS ys = true → Q (.ref p) s') :
    wpAny (model P w) A (call (.builtin "sorted") [.ref a]) Q E s := by
  obtain ⟨⟨es, ep, t⟩, ho, F, nd, r, hl⟩ := R
  have hz : es.size = l.length := F.sz
  obtain ⟨g, kp⟩ := keys_perm F nd
  refine Calls.call_function_entry kind_sorted plain_sorted entry_sorted (args_sorted1 _) ?_
  unfold Builtin.«sorted»
  refine wpAny_bind (m := checkCount "sorted" 1 1 _) (wpAny_pure ?_)
  refine wpAny_bind (collect_set (A := A.in1) hh ⟨_, ho, rfl, rfl⟩ F.fit (by show es.size < scanBound; omega) r hl fun s1 vs k1 z1 g1 o1 pm => ?_)
  obtain ⟨xs, hS, px⟩ := strs_perm pm (strs_of es.toList g)
  have hL : vs.length ≤ sizeLine := by
    rw [pm.length_eq, List.length_map, Array.length_toList, hz, sizeLine_eq]
    unfold scanBound at hb
    omega
  refine wpAny_bind (wpAny_newList ?_ hL)
  have hob : (s1.heap.push (seqObj "list" vs.toArray 0)).get? s1.heap.objs.size = some (seqObj "list" vs.toArray 0) := Heap.get?_push_size _ rfl
  refine wpAny_bind (wpAny_holding (wpAny_call_entry slot_list_sort ⟨_, hob, rfl⟩ entry_list_sort (list_sort_treeKAny strKind_oneLt hob hS.keysOf (fun v₁ v₂ rest e => keyKind_strs (by rw [← e]; exact hS)) hL fun st hp hs => ⟨_, rfl, ?_⟩) (args_list_sort _)))
  obtain ⟨ys, y1, y2, y3⟩ := sorted_out_str hS hp hs
  obtain ⟨c, hc⟩ := sortedHeap_at (vs := vs) (out := (arrOf st).map (·.2)) hob
  refine wpAny_pure ⟨_, rfl, hQ _ s1.heap.objs.size _ c ys (fun b u e => ?_) g1 o1 z1 hc y1 (y2.trans (px.trans kp)) y3⟩
  have q := k1 b u e
  have lt := Heap.lt_size q
  show (sortedHeap (s1.heap.push (seqObj "list" vs.toArray 0)) s1.heap.objs.size vs _).get? b = some u
  rw [sortedHeap_old (Nat.ne_of_lt lt) (by rw [size_push']; exact Nat.lt_succ_of_lt lt)]
  exact Heap.get?_push_of_some _ q
end
/-! ### the rule -/
/-- the signs of x, in their order, each once -/
def Own (x : Str) (ys : List Str) : Prop := ys.Perm (mets (signs x) x.cps.size) ∧ sortedS ys = true
/-- sorted(set(e)), e a text -/
def tSS (te : TE) : TE := fun σ H Q => te σ H fun v H1 => ∃ x : Str, v = .str x ∧ x.cps.size ≤ 4000 ∧ ∀ (ys : List Str) (p : Addr), Own x ys → H1 p = none → Q (.ref p) (upd H1 p (.lst (ys.map V.str)))
section
variable {X : Cx}
theorem pe_ss {e : Expr} {te : TE} {p p2 q pos : Pos} (hg : Gl X "sorted") (hm : X.mg "sorted" = none) (hg2 : Gl X "set") (hm2 : X.mg "set" = none) (he : PE X e te) (hc : X.calm = true := by rfl)
    (ne : starEach [e] X.env = (false, eval e X.env) :: starEach [] X.env := by rfl) : PE X (.Call (.Name "sorted" p) [.Call (.Name "set" p2) [e] [] q] [] pos) (tSS te) := by
  refine ⟨fun pins s σ H Q I h => ?_⟩
  refine Call_ (ld_blt I hg hm Boot.sorted ?_)
  refine PyProof.Rows.callWith_builtin1 (PyProof.Rows.args_cons ?_ rfl) rfl rfl
  refine Call_ (ld_blt I hg2 hm2 PyProof.Rows.boot_set ?_)
  refine PyProof.Rows.callWith_type1 (PyProof.Rows.args_cons (thn (he.run pins s σ H _ I h) fun v s1 hh => PyProof.Rows.args_nil ?_) ne) ne rfl
  obtain ⟨v, H1, I1, rv, x, rfl, hz, q1⟩ := hh
  obtain ⟨u, rfl⟩ := rv
  refine set_str (P := X.prog) (w := X.w) (I1.ok.hd hc) (by unfold scanBound; omega) fun h' tk k1 z1 R => PyProof.Rows.args_nil ?_
  have I2 : Inv X pins σ H1 { s1 with heap := h', toks := tk } := I1.kept k1
  have R2 : SetT X.prog X.w ({ s1 with heap := h', toks := tk } : Shared).heap s1.heap.objs.size (mets (signs x) x.cps.size) := R
  generalize ({ s1 with heap := h', toks := tk } : Shared) = s2 at I2 R2 ⊢
  refine sorted_setT R2 (I2.ok.hd hc) (by have := mets_len (signs x) x.cps.size; unfold scanBound; omega) fun s3 a out c ys k3 g3 o3 hp hget y1 y2 y3 => ?_
  have hlen : (ys.map V.str).length ≤ sizeLine := by
    have := mets_len (signs x) x.cps.size
    rw [List.length_map, y2.length_eq, sizeLine_eq]
    omega
  have hn : H1 a = none := I2.hok.fresh hp
  have J : Inv X pins σ (upd H1 a (.lst (ys.map V.str))) { s2 with heap := s3.heap, gens := s3.gens, drawn := s3.drawn, toks := s3.toks } :=
    I2.call (ch := []) (Un.laid k3 hp hn) (I2.hok.laid k3 hp ⟨hlen, out.toList, c, vals_of_strs y1, hget⟩) (by rw [g3]; exact I2.bare) (fun _ z => nomatch z)
  have e : s3 = { s2 with heap := s3.heap, gens := s3.gens, drawn := s3.drawn, toks := s3.toks } := by
    cases s3
    cases s2
    cases o3
    rfl
  rw [e]
  exact ⟨.ref a, _, J, rfl, q1 ys a ⟨y2, y3⟩ hn⟩
end
/-! ### one such list alone -/
theorem rise_pair : ∀ (p : Str) (l : List Str), risingS p l = true → (∀ x, x ∈ l → ltCps x.cps.toList p.cps.toList = false) ∧ sortedS l = true := by
  intro p l
  induction l generalizing p with
  | nil => exact fun _ => ⟨fun x hx => (List.not_mem_nil hx).elim, rfl⟩
  | cons y r ih =>
    intro h
    have h' : (!ltCps y.cps.toList p.cps.toList && risingS y r) = true := h
    obtain ⟨h1, h2⟩ := Bool.and_eq_true_iff.mp h'
    have h1 : ltCps y.cps.toList p.cps.toList = false := by simpa using h1
    obtain ⟨h3, h4⟩ := ih y h2
    refine ⟨fun x hx => ?_, h2⟩
    rcases List.mem_cons.mp hx with e | e
    · rw [e]; exact h1
    · have h5 := h3 x e
      rw [ltCps_eq, decide_eq_false_iff_not] at h1 h5 ⊢
      exact fun z => (List.le_trans (List.not_lt.mp h1) (List.not_lt.mp h5)) |> fun q => List.not_lt.mpr q z
theorem own_one : ∀ {ys zs : List Str}, sortedS ys = true → sortedS zs = true → ys.Perm zs → ys = zs := by
  intro ys
  induction ys with
  | nil => exact fun _ _ p => (List.nil_perm.mp p).symm ▸ rfl
  | cons y r ih =>
    intro zs h1 h2 p
    cases zs with
    | nil => exact absurd p.length_eq (by simp)
    | cons z t =>
      obtain ⟨a1, a2⟩ := rise_pair y r h1
      obtain ⟨b1, b2⟩ := rise_pair z t h2
      have e : y = z := by
        have hy : y ∈ z :: t := p.mem_iff.mp List.mem_cons_self
        have hz : z ∈ y :: r := p.mem_iff.mpr List.mem_cons_self
        rcases List.mem_cons.mp hy with e | hy
        · exact e
        rcases List.mem_cons.mp hz with e | hz
        · exact e.symm
        have c1 := b1 y hy
        have c2 := a1 z hz
        rw [ltCps_eq, decide_eq_false_iff_not] at c1 c2
        have c := List.le_antisymm (List.not_lt.mp c1) (List.not_lt.mp c2)
        cases y
        cases z
        exact congrArg Str.mk (Array.toList_inj.mp c.symm)
      subst e
      rw [ih a2 b2 (List.perm_cons _ |>.mp p)]
theorem Own.one {x : Str} {ys zs : List Str} (h : Own x ys) (g : Own x zs) : ys = zs := own_one h.2 g.2 (h.1.trans g.1.symm)
end SST

/-! rules that the laws' texts ask besides -/
namespace NR
open PySem PySem.Spec PyProof.Rows L2
/-! ### enumerate(tuple) -/
theorem meets_enumT (l : Addr) (items : Array Value) (n : Nat) (dct : Option Addr) (sl : Array (Option Value)) :
    Meets (Builtin.«enumerate.__new__» ⟨[.type "enumerate", .ref l], []⟩) (fun _ R s => s.heap.get? l = some { cls := .type "tuple", dict := dct, data := .seq items n, slots := sl } ∧
      R (.ok (.ret (.ref (s.heap.push { cls := .type "tuple_iterator", data := .fields #[.ref l, .int 0 0] }).objs.size)))
        { s with heap := (s.heap.push { cls := .type "tuple_iterator", data := .fields #[.ref l, .int 0 0] }).push { cls := .type "enumerate", data := .fields #[.none, .bool false, .ref s.heap.objs.size, rawInt 0, .none, .none] } }) :=
  .of_wp fun prog w A R s h => by
    obtain ⟨hp, g, d, tk, os⟩ := s
    obtain ⟨hl, h⟩ := h
    have hsub := sub_enumerate
    have hT : Heap.IsTuple (Shared.heap ⟨hp, g, d, tk, os⟩) l items := ⟨_, hl, rfl, n, rfl⟩
    wp_walk using AutoSeq1.wpAny_loadPart' hl
    refine wpAny_stack_any fun st => wpAny_pure ?_
    split
    · rename_i c _ _ _ _ _
      cases (c == Value.type "enumerate")
      · wp_walk using AutoSeq1.wpAny_loadPart' hl, wpAny_pyIter_tuple hT
        exact ⟨_, rfl, h⟩
      · wp_walk using AutoSeq1.wpAny_loadPart' hl, wpAny_pyIter_tuple hT
        exact ⟨_, rfl, h⟩
    · wp_walk using AutoSeq1.wpAny_loadPart' hl, wpAny_pyIter_tuple hT
      exact ⟨_, rfl, h⟩
theorem call_enumT {prog : Program} {w : World} {A : Around} {E : Value → Shared → Prop} {s : Shared} {l : Addr} {items : Array Value} {Q : Value → Shared → Prop} (hL : s.heap.IsTuple l items)
    (h : ∀ h', IsEnum h' (s.heap.objs.size + 1) s.heap.objs.size 0 .none → h'.IsTupleIter s.heap.objs.size l 0 → (∀ b o, s.heap.get? b = some o → h'.get? b = some o) → Q (.ref (s.heap.objs.size + 1)) { s with heap := h' }) :
    wpAny (model prog w) A (call (.type "enumerate") [.ref l]) Q E s := by
  obtain ⟨⟨c, dct, dt, sl⟩, hl, hc, n, hd⟩ := hL
  obtain rfl : c = .type "tuple" := hc
  obtain rfl : dt = .seq items n := hd
  refine callType_new F.called_enumerate (by decide) (F.typeCall_enumerate_1 _) (F.newCall_enumerate_1 _) (fun obj => F.args_object_init_2 obj _) F.entry_enumerate_new (meets_enumT l items n dct sl) ⟨hl, ?_⟩
  have hz : (s.heap.push { cls := .type "tuple_iterator", data := .fields #[.ref l, .int 0 0] }).objs.size = s.heap.objs.size + 1 := Heap.size_push ..
  show _ ∧ _
  rw [hz]
  have he : IsEnum ((s.heap.push { cls := .type "tuple_iterator", data := .fields #[.ref l, .int 0 0] }).push { cls := .type "enumerate", data := .fields #[.none, .bool false, .ref s.heap.objs.size, rawInt 0, .none, .none] }) (s.heap.objs.size + 1) s.heap.objs.size 0 .none := by
    have q := Heap.get?_push_size (s.heap.push { cls := .type "tuple_iterator", data := .fields #[.ref l, .int 0 0] }) (o := { cls := .type "enumerate", data := .fields #[.none, .bool false, .ref s.heap.objs.size, rawInt 0, .none, .none] }) rfl
    rw [hz] at q
    exact q
  exact ⟨⟨_, he, rfl⟩, h _ he ⟨_, Heap.get?_push_of_some _ (Heap.get?_push_size _ rfl), rfl, rfl⟩ fun b o x => Heap.get?_push_of_some _ (Heap.get?_push_of_some _ x)⟩
/-- the tuple at a, each item in a new pair -/
def IteT (K : PySem.W.Frag) (a : Addr) : It :=
  ⟨fun i H => ∃ (xs : List V) (x : V), SqT K H a xs ∧ xs[i]? = some x, fun i H v H' => ∃ T x, v = .ref T ∧ H T = none ∧ H' = upd H T (.tup [.int (i : Nat), x]) ∧ ∀ xs, SqT K H a xs → xs[i]? = some x, fun i H => ∃ xs : List V, SqT K H a xs ∧ xs.length = i⟩
theorem turn_enumT {P : Program} {w : World} {K : PySem.W.Frag} {elts : List Expr} {kk : Nat} {tpos : Pos} (a e it : Addr) :
    Turn P w K (.Tuple elts kk tpos) (IteT K a) [e, it] e (fun i h => (∃ old, IsEnum h e it ((i : Nat) : Int) old) ∧ h.IsTupleIter it a i ∧ e ≠ it) where
  mem := by simp
  obj := fun i h st b hb => by
    obtain ⟨⟨old, he⟩, ⟨o, ho, hc, hd⟩, _⟩ := st
    rcases (show b = e ∨ b = it by simpa using hb) with z | z
    · rw [z]
      exact ⟨_, he, fun v q => nomatch q⟩
    · rw [z]
      exact ⟨o, ho, fun v q => by rw [hd] at q; cases q⟩
  keep := fun i h h' st k => ⟨st.1.imp fun old he => k e (by simp) _ he, st.2.1.at fun o q => k it (by simp) o q, st.2.2⟩
  item := by
    intro X hP hw hK hc i pins s σ H E I hf st hg
    subst hP hw hK
    obtain ⟨⟨old, he⟩, hit, hne⟩ := st
    obtain ⟨xs, x, hq, hx⟩ := hg
    obtain ⟨its, rv, p, hz⟩ := I.tuple hq
    obtain ⟨u, hu, ru⟩ := rv.get hx
    have hel : e < s.heap.objs.size := Heap.lt_size he
    have hil : it < s.heap.objs.size := by obtain ⟨_, q, _⟩ := hit; exact Heap.lt_size q
    have pt : s.heap.IsTuple a its.toArray := p
    have ane : a ≠ it := fun z => by
      obtain ⟨o1, e1, c1, _⟩ := pt
      obtain ⟨o2, e2, c2, _⟩ := hit
      rw [z, e2] at e1
      cases e1
      rw [c1] at c2
      injection c2 with q
      exact absurd q (by decide)
    have ae : a ≠ e := fun z => by
      obtain ⟨o1, e1, c1, _⟩ := pt
      have e2 : s.heap.get? e = _ := he
      rw [z, e2] at e1
      cases e1
      injection (show Value.type "enumerate" = Value.type "tuple" from c1) with q
      exact absurd q (by decide)
    have hi : i < its.toArray.size := by
      rw [List.size_toArray, ← rv.length]
      exact (List.getElem?_eq_some_iff.mp hx).1
    refine wpAny_pyNext_enum_itemD (Draws.tuple (A := X.A.in1) (I.ok.hd hc) it a ane its.toArray) he ⟨hit, pt⟩ hi hne (by simp [hne, Ne.symm ae]) fun y h' tk hy ho st' hT hsz hk => ?_
    have ey : y = u := by
      have q1 : its.toArray[i]? = some u := by simpa using hu
      rw [q1] at hy
      exact (Option.some.inj hy).symm
    subst ey
    refine ⟨_, rfl, wpAny_letOwnedTupleGo_enum (s := { s with heap := h', toks := tk + 1 }) ho fun h'' he' sb => ?_⟩
    have hT2 : h''.get? s.heap.objs.size = some { cls := .type "tuple", data := .seq #[.int i tk, y] } := (sb.2 _ (Nat.ne_of_gt hel)).trans hT
    have new : ObjOk X.prog X.w (upd H s.heap.objs.size (.tup [.int (i : Nat), x])) h'' s.heap.objs.size (.tup [.int (i : Nat), x]) :=
      ⟨by show 2 ≤ sizeLine; decide, [.int i tk, y], .cons ⟨_, rfl⟩ (.cons ru .nil), ⟨_, hT2, rfl, _, rfl⟩⟩
    have I1 : Inv X pins σ (upd H s.heap.objs.size (.tup [.int (i : Nat), x])) { s with heap := h'', toks := tk + 1 } :=
      I.turnedNew (ch := [e, it]) (fun b ob hb q => (sb.2 b (fun z => hb (by simp [z]))).trans (hk b ob (fun z => hb (by simp [z])) (fun z => hb (by simp [z])) q)) hf (Nat.le_refl _) new
    refine ⟨.ref s.heap.objs.size, _, I1, rfl, ⟨_, x, rfl, I.hok.fresh (Nat.le_refl _), rfl, fun ys hy => by rw [I.tuple_inj hy hq]; exact hx⟩, ⟨⟨y, ?_⟩, st'.1.at fun o q => (sb.2 it (Ne.symm hne)).trans q, hne⟩, fun b hb => ?_⟩
    · rw [show ((i + 1 : Nat) : Int) = (i : Int) + 1 by omega]
      exact he'
    · have hb' : b < s.heap.objs.size := by
        rcases (show b = e ∨ b = it by simpa using hb) with z | z
        · exact z ▸ hel
        · exact z ▸ hil
      rw [upd_ne (Nat.ne_of_lt hb')]
      exact (hf b hb).1
  done := by
    intro X hP hw hK hc i pins s σ H E I hf st hg
    subst hP hw hK
    obtain ⟨⟨old, he⟩, hit, hne⟩ := st
    obtain ⟨xs, hq, hx⟩ := hg
    obtain ⟨its, rv, p, hz⟩ := I.tuple hq
    obtain ⟨f0, f1, f2, f3, f4, f5⟩ := hf it (by simp)
    have hl := rv.length
    have pt : s.heap.IsTuple a its.toArray := p
    have ane : a ≠ it := fun z => by
      obtain ⟨o1, e1, c1, _⟩ := pt
      obtain ⟨o2, e2, c2, _⟩ := hit
      rw [z, e2] at e1
      cases e1
      rw [c1] at c2
      injection c2 with q
      exact absurd q (by decide)
    subst hx
    refine wpAny_pyNext_enum_endD (Draws.tuple (A := X.A.in1) (I.ok.hd hc) it a ane its.toArray) he ⟨?_, pt⟩ fun h' eb => ⟨rfl, I.turned (t' := s.toks) (fun b o hb q => eb b o hb q) f0 f1 f3 f4 f5⟩
    rw [List.size_toArray, ← hl]
    exact hit
  self := fun A i s Q E st h => let ⟨⟨_, he⟩, _⟩ := st; wpAny_pyIter_enum he h
def iEnumT (K : PySem.W.Frag) (ta : TA) : TI := fun σ H R => ta σ H fun vs H1 => ∃ a xs, vs = [.ref a] ∧ SqT K H1 a xs ∧ R (IteT K a) H1
theorem pi_enumT {X : Cx} {e : Expr} {ta : TA} {p pos tpos : Pos} {elts : List Expr} {kk : Nat} (hg : Gl X "enumerate") (hm : X.mg "enumerate" = none) (ha : PA X [e] ta) (hs : starEach [e] X.env = [(false, eval e X.env)] := by rfl) :
    PI X (.Tuple elts kk tpos) (.Call (.Name "enumerate" p) [e] [] pos) (iEnumT X.K ta) := by
  refine ⟨fun pins s σ H R I h => ?_⟩
  refine Call_ (ld_blt I hg hm boot_enumerate (PyProof.Rows.callWith_type1 (thn (ha.run pos pins s σ H _ I h) fun us s1 ⟨vs, H1, I1, r1, q1⟩ => ?_) hs rfl))
  obtain ⟨a, xs, rfl, hq, q⟩ := q1
  cases r1 with
  | cons r rr =>
    cases rr
    cases r
    obtain ⟨its, rv, pt, hz⟩ := I1.tuple hq
    refine call_enumT (show s1.heap.IsTuple a its.toArray from pt) fun h' he hit hk => wpAny_pyIter_enum he ?_
    have I2 : Inv X pins σ H1 { s1 with heap := h' } := I1.kept (t' := s1.toks) hk
    refine ⟨s1.heap.objs.size + 1, [s1.heap.objs.size + 1, s1.heap.objs.size], _, _, H1, rfl, I2, turn_enumT a (s1.heap.objs.size + 1) s1.heap.objs.size, ⟨⟨.none, he⟩, hit, Nat.succ_ne_self _⟩, fun b hb => ?_, q⟩
    have hle : s1.heap.objs.size ≤ b := by
      rcases (show b = s1.heap.objs.size + 1 ∨ b = s1.heap.objs.size by simpa using hb) with z | z
      · rw [z]
        exact Nat.le_add_right _ _
      · rw [z]
        exact Nat.le_refl _
    exact I1.fpOk hle (I1.hok.fresh hle)
theorem w_enumT {K : PySem.W.Frag} {a : Addr} {xs : List V} : Walk (IteT K a) xs.length (fun H => SqT K H a xs) (RD.YP (fun i => some (.int (i : Nat))) (fun i => xs[i]?)) := by
  refine ⟨fun i _ hi q => ⟨xs, xs[i], q, by simp [hi]⟩, fun _ q => ⟨xs, q, rfl⟩, fun i H v H' _ q y => ?_⟩
  obtain ⟨T, x, h1, h2, h3, h4⟩ := y
  subst h3
  exact ⟨T, .int (i : Nat), x, h1, h2, RD.same_new h2, upd_same, rfl, h4 xs q⟩
section
variable {K : PySem.W.Frag} {tx : TA} {σ : L2.St} {H : Hp} {R : It → Hp → Prop}
theorem ienumT (h : tx σ H fun vs H1 => ∃ a xs, vs = [.ref a] ∧ SqT K H1 a xs ∧ R (IteT K a) H1) : iEnumT K tx σ H R := h
theorem ienumTV {a : Addr} {xs : List V} {S : Addr → Prop} (hx : SqT K H a xs) (h : S a) : ∃ b ys, [V.ref a] = [.ref b] ∧ SqT K H b ys ∧ S b := ⟨a, xs, rfl, hx, h⟩
end
/-! ### tuple[::-1] -/
section
variable {prog : Program} {w : World} {A : Around} {E : Value → Shared → Prop} {s : Shared}
end
def tRevT (K : PySem.W.Frag) (te : TE) : TE := fun σ H Q => te σ H fun x H1 => ∃ a xs, x = .ref a ∧ SqT K H1 a xs ∧ ∀ p, H1 p = none → Q (.ref p) (upd H1 p (.tup xs.reverse))
/-! ### list(text) -/
theorem vals_get : ∀ (vs : List V) (us : List Value), vs.length = us.length → (∀ (i : Nat) (v : V) (u : Value), vs[i]? = some v → us[i]? = some u → RelV v u) → Vals vs us
  | [], [], _, _ => .nil
  | [], _ :: _, e, _ => by cases e
  | _ :: _, [], e, _ => by cases e
  | v :: vs, u :: us, e, h => .cons (h 0 v u rfl rfl) (vals_get vs us (Nat.succ.inj e) fun i a b h1 h2 => h (i + 1) a b h1 h2)
theorem items_strs {x : Str} {acc : Array Value} {n : Nat} (h : ItemsOf (SignAt x) acc n) (hn : n = x.cps.size) : Vals (x.cps.toList.map fun c => V.str ⟨#[c]⟩) acc.toList := by
  obtain ⟨h1, h2⟩ := h
  refine vals_get _ _ (by rw [List.length_map, Array.length_toList, Array.length_toList, h1, hn]) fun i v u hv hu => ?_
  rw [Array.getElem?_toList] at hu
  obtain ⟨c, t, hc, rfl⟩ := h2 i u hu
  rw [List.getElem?_map, Array.getElem?_toList, hc] at hv
  obtain rfl := Option.some.inj hv
  exact ⟨t, rfl⟩
theorem call_listS {X : Cx} (hc : X.calm = true) : CallR X (.type "list") (fun xs H Q => ∃ x : Str, xs = [.str x] ∧ x.cps.size ≤ sizeLine ∧ ∀ l, H l = none → Q (.ref l) (upd H l (.lst (x.cps.toList.map fun c => V.str ⟨#[c]⟩)))) := by
  intro pins s σ H xs us Q I r h
  obtain ⟨x, rfl, hz, q⟩ := h
  obtain ⟨u, rfl, t, rfl⟩ := vals1 r
  refine call_list_str (I.ok.hd hc) x t (fun h' tk acc c kp e hi => ?_) hz
  exact ⟨.ref s.heap.objs.size, _, I.laid (t' := tk) kp (Nat.le_refl _) (show ObjOk X.prog X.w _ h' _ (.lst _) from ⟨by rw [List.length_map, Array.length_toList]; exact hz, acc.toList, c, items_strs hi rfl, e⟩), rfl, q _ (I.hok.fresh (Nat.le_refl _))⟩
/-! ### == and != by an own __eq__ -/
section
variable {prog : Program} {w : World} {A : Around} {E : Value → Shared → Prop} {s : Shared} {K : PySem.W.Frag} {x C L f : Addr} {ox : Obj} {od : Option Obj} {b tb : Value}
theorem call_ne {Q : Value → Shared → Prop} (hu : A.units + 8 < cLine) (KX : K.In s.heap) (I : PySem.W.InstAt s.heap x ox C od) (hob : PySem.W.subIn K (.ref C) (.type "object") = some true)
    (hs : PySem.W.findIn K (.ref C) "__eq__" = some (some (.ref f))) (hf : PySem.W.isFn K (.ref f) = true)
    (h : wpAny (model prog w) A.in1 (call (.ref f) [.ref x, b]) (fun v s' => ∃ r, v = .bool r ∧ Q (.bool (!r)) s') E s) : wpAny (model prog w) A (call (.builtin "object.__ne__") [.ref x, b]) Q E s := by
  refine wpAny_call (codeAny_call_builtin PySem.F.cmp_object.ne.plain PySem.F.cmpEntry_ne ?_)
  simp only [checkBuiltinCall, PySem.F.cmpKind_ne, PySem.F.cmpSplit_ne]
  have ha := PySem.F.cmpArgs_ne (.ref x) b
  have LI : PySem.W.Looks (model prog w) s.heap (isInstance (.ref x) (.type "object")) true := I.type.andThen (PySem.W.looks_subIn KX hob)
  refine wpAny_bind (LI.here ?_)
  have body : wpAny (model prog w) A.in1 (Builtin.«object.__ne__» ⟨[.ref x, b], []⟩) (fun fin s' => match fin with
      | .done fl => wants Q E (.ok fl) s'
      | .again c => c.quiet = true ∧ codeAny (model prog w) A c (wants Q E) s') E s := by
    unfold Builtin.«object.__ne__»
    refine wpAny_bind (m := slotArgs "__ne__" 1 ⟨[.ref x, b], []⟩) (wpAny_of_eq (a := (.ref x, [b])) rfl ?_)
    dsimp only
    refine wpAny_bind (wpAny_cRoomFor (by show A.units + 1 < cLine; omega) ?_)
    refine wpAny_bind (PySem.W.ifBound_K KX I hs hf (wpAny_mono h (fun v s' z => ?_) fun _ _ e => e))
    obtain ⟨r, rfl, q⟩ := z
    dsimp only
    unfold truthy
    dsimp only
    exact wpAny_bind (wpAny_pure (wpAny_pure q))
  cases hsig : Manifest.signature? "object.__ne__" with
  | none => exact wpAny_pure body
  | some sig =>
    simp only [argsOk, hsig] at ha
    have h2 : Bind.checkArgs "object.__ne__" sig ⟨[.ref x, b], []⟩ = pure () := ha
    show wpAny _ A.in1 (Bind.checkArgs "object.__ne__" sig ⟨[.ref x, b], []⟩) _ _ _
    rw [h2]
    exact wpAny_pure body
theorem ne_own {Q : Value → Shared → Prop} (hu : A.units + 8 < cLine) (KX : K.In s.heap) (I : PySem.W.InstAt s.heap x ox C od) (hb : PySem.W.Looks (model prog w) s.heap (typeOf b) tb) (hn : PySem.W.notFirst K C tb = true)
    (hne : PySem.W.findIn K (.ref C) "__ne__" = some (some (.builtin "object.__ne__"))) (hob : PySem.W.subIn K (.ref C) (.type "object") = some true)
    (hs : PySem.W.findIn K (.ref C) "__eq__" = some (some (.ref f))) (hf : PySem.W.isFn K (.ref f) = true)
    (h : wpAny (model prog w) A.in1 (call (.ref f) [.ref x, b]) (fun v s' => ∃ r, v = .bool r ∧ Q (.bool (!r)) s') E s) : wpAny (model prog w) A (richCompare .NotEq (.ref x) b) Q E s := by
  have told : wpAny (model prog w) A (tryCompare (.ref x) (cmpInfo .NotEq).2.1 b) (fun r s' => ∃ v, r = some v ∧ Q v s') E s := by
    unfold tryCompare
    refine wpAny_bind ?_
    show wpAny _ A (callSpecialIfBound? (.ref x) "__ne__" [b]) _ _ s
    simp only [callSpecialIfBound?, bindSpecialIfBound?]
    refine wpAny_holding (wpAny_bind (wpAny_bind (wpAny_bind (I.type.here ((PySem.W.looks_findIn KX hne).here ?_)))))
    have fin : wpAny (model prog w) A (call (.builtin "object.__ne__") ([.ref x] ++ [b]) >>= fun v => pure (some v)) (fun r s' => wpAny (model prog w) A (match r with
        | some .notImplemented | none => pure none
        | some v => pure (some v)) (fun r s' => ∃ v, r = some v ∧ Q v s') E s') E s :=
      wpAny_bind (call_ne hu KX I hob hs hf (wpAny_mono h (fun v s' z => by
        obtain ⟨r, e, q⟩ := z
        exact ⟨r, e, wpAny_pure (wpAny_pure ⟨_, rfl, q⟩)⟩) fun _ _ e => e))
    simp only [PySem.F.cmp_object.ne.bind]
    refine wpAny_bind (wpAny_askSetting (wpAny_ite ?_))
    split
    · exact wpAny_bind (wpAny_pure (wpAny_pure fin))
    · exact wpAny_tryCatch (wpAny_bind (wpAny_pure (wpAny_pure fin)))
  unfold richCompare
  simp only [oneThing_ref]
  refine wpAny_holding (wpAny_bind (wpAny_cRoomFor (by omega) ?_))
  refine wpAny_bind (I.type.here (wpAny_bind (hb.here ?_)))
  split
  · rename_i q
    have e : PySem.W.subIn K tb (.ref C) = some false := by
      rcases Bool.or_eq_true_iff.mp hn with e | e
      · rw [beq_iff_eq.mp e] at q
        simp at q
      · exact beq_iff_eq.mp e
    refine wpAny_bind ((PySem.W.looks_subIn KX e).here ?_)
    simp only [Bool.false_eq_true, if_false]
    refine wpAny_bind (wpAny_mono told (fun r s' z => ?_) fun _ _ e => e)
    obtain ⟨v, rfl, hq⟩ := z
    exact wpAny_pure hq
  · refine wpAny_bind (wpAny_pure ?_)
    simp only [Bool.false_eq_true, if_false]
    refine wpAny_bind (wpAny_mono told (fun r s' z => ?_) fun _ _ e => e)
    obtain ⟨v, rfl, hq⟩ := z
    exact wpAny_pure hq
end
/-- what the class must say -/
structure EqC (K : PySem.W.Frag) (C f : Addr) : Prop where
  eq : PySem.W.findIn K (.ref C) "__eq__" = some (some (.ref f))
  fn : PySem.W.isFn K (.ref f) = true
  ne : PySem.W.findIn K (.ref C) "__ne__" = some (some (.builtin "object.__ne__"))
  ob : PySem.W.subIn K (.ref C) (.type "object") = some true
def rOwn (K : PySem.W.Frag) (C : Addr) (sp : Sp) (E : XK) (neg : Bool) : R2 := fun x y H Q => ∃ (a d : Addr) (fs : List (Str × V)) (t : Value), x = .ref a ∧ H a = some (.ins C d fs) ∧ TyX K H y t ∧ PySem.W.notFirst K C t = true ∧
  sp [.ref a, y] H (fun v H' => ∃ b, v = .bl b ∧ Q (.bl (if neg = true then !b else b)) H') E
section
variable {X : Cx} {CX : CXT} {n : Nat} {C f : Addr} {fd : FuncData} {ps : List Str} {sp : Sp} {E : XK}
theorem run_own {pins : List (Addr × Obj)} {σ : L2.St} {H : Hp} {s : Shared} {Q : VK} {A : Around} {a : Addr} {y : V} {u : Value} (F : FnOk X.prog X.w X.K X.mg X.base CX n f fd ps sp) (hr : Room n A) (hf : A.frames = X.A.frames) (hb : Binds X.K fd ps []) (hx : Passes CX X E)
    (I : Inv X pins σ H s) (ry : RelV y u) (h : sp [.ref a, y] H (fun v H' => ∃ b, v = .bl b ∧ Q (.bl b) H') E) :
    wpAny (model X.prog X.w) A (call (.ref f) [.ref a, u]) (fun v s' => ∃ r, v = .bool r ∧ EP X pins σ Q (.bool r) s') X.xe s := by
  have e0 : Env0 X.prog X.w X.K X.mg X.base A X.stack s H := by
    have e := I.env0
    exact ⟨by rw [hf]; exact e.frames, e.mod, e.bs, e.bsz, e.funs, e.frf, e.hok, e.bare⟩
  have hl := F.len _ _ _ _ h
  have r2 : Vals [V.ref a, y] [Value.ref a, u] := .cons rfl (.cons ry .nil)
  refine wpAny_call (codeAny_mono (F.run A X.stack s H ⟨[.ref a, u], []⟩ [.ref a, u] [.ref a, y] _ E hr e0 (by
    have z := hb s [.ref a, u] I.kIn (by simpa using hl)
    simpa using z) r2 h) fun r s' hq => ?_)
  cases r with
  | error e => exact hx pins σ H s e s' I hq
  | ok fl =>
    cases fl with
    | ret z =>
      obtain ⟨v, H', I', rz, hh⟩ := I.after hq
      obtain ⟨b, ev, q⟩ := hh
      subst ev
      obtain rfl : z = .bool b := rz
      exact ⟨b, rfl, .bl b, H', I', rfl, q⟩
    | next => exact False.elim hq
    | brk => exact False.elim hq
    | cont => exact False.elim hq
theorem op_ownNe (T : EqC X.K C f) (F : FnOk X.prog X.w X.K X.mg X.base CX n f fd ps sp) (hr : Room (n + 1) X.A) (hb : Binds X.K fd ps []) (hx : Passes CX X E) : OpR X (compareOp .NotEq) (rOwn X.K C sp E true) := by
  intro pins s σ H x y v u Q I rx ry h
  obtain ⟨a, d, fs, t, rfl, ha, ty, nf, q⟩ := h
  cases rx
  obtain ⟨mA, J, _⟩ := ins_get I.hok ha
  obtain ⟨od, J, _⟩ := J.look
  obtain ⟨P, kx, hP, _⟩ := kit_of I ry ty
  refine ne_own (by have := hr.un; omega) I.kIn J (kx.ty _ _ I.kIn hP) nf T.ne T.ob T.eq T.fn (wpAny_mono (run_own (A := X.A.in1) (Q := fun v H' => ∃ b, v = .bl b ∧ Q (.bl (!b)) H') F hr.in1 rfl hb hx I ry ?_) (fun v s' z => ?_) fun _ _ e => e)
  · have e : (fun v H' => ∃ b, v = V.bl b ∧ Q (.bl (if true = true then !b else b)) H') = fun v H' => ∃ b, v = V.bl b ∧ ∃ c, V.bl b = .bl c ∧ Q (.bl (!c)) H' := by
      funext v H'
      refine propext ⟨fun ⟨b, e, q⟩ => ⟨b, e, b, rfl, q⟩, fun ⟨b, e, c, e2, q⟩ => ⟨b, e, by cases e2; exact q⟩⟩
    rw [e] at q
    exact q
  · obtain ⟨r, rfl, v, H', I', rv, b, ev, q⟩ := z
    subst ev
    have e : r = b := by
      have z : Value.bool r = .bool b := rv
      cases z
      rfl
    subst e
    exact ⟨r, rfl, .bl (!r), H', I', rfl, q⟩
end
/-! ### C(..) in a try -/
def tMakeS (C : Addr) (sp : Sp) (dvs : List V) (E : L2.St → XK) (t : TA) : TE := fun σ H Q => t σ H fun vs H1 => ∀ x dx, H1 x = none → H1 dx = none → dx ≠ x →
  sp (.ref x :: (vs ++ dvs)) (upd (upd H1 dx (.own x)) x (.ins C dx [])) (fun v H2 => v = .non ∧ Q (.ref x) H2) (E σ)
section
variable {X : Cx} {CX : CXT} {k : Nat} {C f : Addr} {fd : FuncData} {ps : List Str} {sp : Sp} {E : L2.St → XK} {x : Str} {p pos : Pos} {e : Expr} {es : List Expr} {t : TA} {dvs : List V} {ds : List Value}
end
/-- of a callee that raises, where it does not -/
theorem passN {X : Cx} : Passes (L2.CX X.prog X.w) X (fun _ _ _ => False) := fun _ _ _ _ _ _ _ h => by
  obtain ⟨_, _, _, _, _, _, _, _, _, _, _, _, z⟩ := h
  exact z.elim
end NR

/-! more readings -/
namespace RB
open PySem PySem.Spec PyProof.Rows L2
section
variable {K : PySem.W.Frag} {σ : L2.St} {H : Hp} {Q : VK} {ta tb tc te to : TE} {t tx : TA} {r r' : R2}
theorem chain (h : ta σ H fun x H1 => tb σ H1 fun y H2 => r x y H2 fun z H3 => ∃ k, z = .bl k ∧ (if k = true then tc σ H3 fun w' H4 => r' y w' H4 Q else Q (.bl false) H3)) : tChain r r' ta tb tc σ H Q := h
theorem inT {p : Addr} {xs : List V} {x : V} (hq : SqL K H p xs ∨ SqT K H p xs) (fx : flatV x = true) (fs : xs.all flatV = true) (q : Q (.bl (inV x xs)) H) : rIn K false x (.ref p) H Q := ⟨p, xs, rfl, hq, fx, fs, q⟩
theorem ninT {p : Addr} {xs : List V} {x : V} (hq : SqL K H p xs ∨ SqT K H p xs) (fx : flatV x = true) (fs : xs.all flatV = true) (q : Q (.bl (!inV x xs)) H) : rIn K true x (.ref p) H Q := ⟨p, xs, rfl, hq, fx, fs, q⟩
theorem inS {c : Nat} {z : Str} {R : Nat → Str → Prop} (q : R c z) : ∃ (d : Nat) (y : Str), V.str ⟨#[c]⟩ = .str ⟨#[d]⟩ ∧ V.str z = .str y ∧ R d y := ⟨c, z, rfl, rfl, q⟩
theorem lenL {p : Addr} {xs : List V} {R : Nat → Prop} (hx : SqL K H p xs) (q : R xs.length) : ∃ y n, [V.ref p] = [y] ∧ LenV K y H n ∧ R n := ⟨_, _, rfl, .inl ⟨xs, hx, rfl⟩, q⟩
theorem lenT {p : Addr} {xs : List V} {R : Nat → Prop} (hx : SqT K H p xs) (q : R xs.length) : ∃ y n, [V.ref p] = [y] ∧ LenV K y H n ∧ R n := ⟨_, _, rfl, .inr ⟨xs, hx, rfl⟩, q⟩
theorem lenS {z : Str} {R : Nat → Prop} (hz : z.length ≤ sizeLine) (q : R z.length) : ∃ y n, [V.str z] = [y] ∧ LenV K y H n ∧ R n := ⟨_, _, rfl, ⟨hz, rfl⟩, q⟩
theorem m1 {r : V → List V → Hp → VK → Prop} (h : to σ H fun x H1 => (∃ a, x = .str a) ∧ te σ H1 fun y H2 => r x [y] H2 Q) : tM1 r to te σ H Q := h
theorem strE {z : Str} {R : Prop} (q : R) : (∃ a, V.str z = .str a) ∧ R := ⟨⟨z, rfl⟩, q⟩
theorem joinV {z : Str} {p : Addr} {ys : List Str} {R : Str → List Str → Prop} (hq : SqL K H p (ys.map V.str) ∨ SqT K H p (ys.map V.str)) (hz : (ys.map (·.length)).sum + ys.length * z.length ≤ 16777216) (q : R z ys) :
    ∃ a q', ∃ ws : List Str, V.str z = .str a ∧ [V.ref p] = [.ref q'] ∧ (SqL K H q' (ws.map V.str) ∨ SqT K H q' (ws.map V.str)) ∧ (ws.map (·.length)).sum + ws.length * a.length ≤ 16777216 ∧ R a ws := ⟨z, p, ys, rfl, rfl, hq, hz, q⟩
theorem cut_all {xs : List V} {lo hi : Option Int} (h : HT.sIx xs.length 0 lo = 0 ∧ HT.sIx xs.length xs.length hi = xs.length) : cutV xs lo hi = xs := by
  unfold cutV
  rw [h.1, h.2, List.drop_zero]
  exact List.take_of_length_le (by omega)
theorem slT {a : Addr} {xs : List V} {lo hi : Option Int} (hx : H a = some (.tup xs)) (h : ∀ p H', Same H H' → H' p = some (.tup (cutV xs lo hi)) → (p = a ∨ H p = none) → Q (.ref p) H') : rSlA K (.ref a) lo hi H Q := by
  refine ⟨a, xs, rfl, .inl (.inl hx), fun hw => ?_, fun _ p hp => h p _ (RD.same_new hp) upd_same (.inr hp)⟩
  exact h a H (Same.refl _) (by rw [cut_all hw]; exact hx) (.inl rfl)
theorem catT {a b : Addr} {xs ys : List V} (ha : H a = some (.tup xs)) (hb : H b = some (.tup ys)) (hz : xs.length + ys.length ≤ sizeLine)
    (h : ∀ p H', Same H H' → H' p = some (.tup (xs ++ ys)) → (p = a ∨ p = b ∨ H p = none) → Q (.ref p) H') : rCatA K (.ref a) (.ref b) H Q := by
  refine ⟨a, b, xs, ys, rfl, rfl, .inl (.inl ha), .inl (.inl hb), hz, fun e => ?_, fun _ e => ?_, fun _ _ p hp => h p _ (RD.same_new hp) upd_same (.inr (.inr hp))⟩
  · exact h b H (Same.refl _) (by rw [e, List.nil_append]; exact hb) (.inr (.inl rfl))
  · exact h a H (Same.refl _) (by rw [e, List.append_nil]; exact ha) (.inl rfl)
def RevX (K : PySem.W.Frag) (x : V) (H1 : Hp) (Q : VK) : Prop := ∃ a xs, x = .ref a ∧ SqT K H1 a xs ∧ ∀ p, H1 p = none → Q (.ref p) (upd H1 p (.tup xs.reverse))
theorem rev (h : te σ H fun x H1 => RevX K x H1 Q) : NR.tRevT K te σ H Q := h
theorem revV {a : Addr} {xs : List V} (hx : SqT K H a xs) (h : ∀ p H', H p = none → Same H H' → H' p = some (.tup xs.reverse) → Q (.ref p) H') : RevX K (.ref a) H Q := ⟨a, xs, rfl, hx, fun p hp => h p _ hp (RD.same_new hp) upd_same⟩
def rListS : List V → Hp → VK → Prop := fun xs H Q => ∃ x : Str, xs = [.str x] ∧ x.cps.size ≤ sizeLine ∧ ∀ l, H l = none → Q (.ref l) (upd H l (.lst (x.cps.toList.map fun c => V.str ⟨#[c]⟩)))
theorem call_listS {X : Cx} (hc : X.calm = true) : CallR X (.type "list") rListS := NR.call_listS hc
theorem listS {z : Str} (hz : z.cps.size ≤ sizeLine) (h : ∀ p H', H p = none → Same H H' → H' p = some (.lst (z.cps.toList.map fun c => V.str ⟨#[c]⟩)) → Q (.ref p) H') : rListS [.str z] H Q := ⟨z, rfl, hz, fun p hp => h p _ hp (RD.same_new hp) upd_same⟩
def rListO (K : PySem.W.Frag) : List V → Hp → VK → Prop := fun xs H Q => ∃ p ys, xs = [.ref p] ∧ (SqL K H p ys ∨ SqT K H p ys) ∧ ∀ l, H l = none → Q (.ref l) (upd H l (.lst ys))
theorem call_listO {X : Cx} : CallR X (.type "list") (rListO X.K) := call_list_of
theorem listO {a : Addr} {xs : List V} (hx : SqL K H a xs ∨ SqT K H a xs) (h : ∀ p H', H p = none → Same H H' → H' p = some (.lst xs) → Q (.ref p) H') : rListO K [.ref a] H Q := ⟨a, xs, rfl, hx, fun p hp => h p _ hp (RD.same_new hp) upd_same⟩
def rTupO (K : PySem.W.Frag) : List V → Hp → VK → Prop := fun xs H Q => ∃ p ys, xs = [.ref p] ∧ ((SqL K H p ys ∧ ∀ l, H l = none → Q (.ref l) (upd H l (.tup ys))) ∨ (SqT K H p ys ∧ Q (.ref p) H))
theorem call_tupO {X : Cx} : CallR X (.type "tuple") (rTupO X.K) := call_tuple_of
theorem tupL {a : Addr} {xs : List V} (hx : SqL K H a xs) (h : ∀ p H', H p = none → Same H H' → H' p = some (.tup xs) → Q (.ref p) H') : rTupO K [.ref a] H Q := ⟨a, xs, rfl, .inl ⟨hx, fun p hp => h p _ hp (RD.same_new hp) upd_same⟩⟩
theorem fld {f : Str} (h : ta σ H fun x H1 => ∃ a C dx fs v, x = .ref a ∧ H1 a = some (.ins C dx fs) ∧ Cls K C ∧ NoAttr K C f ∧ fs.lookup f = some v ∧ Q v H1) : tFld K ta f σ H Q := h
theorem fldV {a C dx : Addr} {fs : List (Str × V)} {v : V} {f : Str} {R : V → Prop} (ha : H a = some (.ins C dx fs)) (c : Cls K C) (n : NoAttr K C f) (l : fs.lookup f = some v) (q : R v) :
    ∃ b D dy gs w, V.ref a = .ref b ∧ H b = some (.ins D dy gs) ∧ Cls K D ∧ NoAttr K D f ∧ gs.lookup f = some w ∧ R w := ⟨a, C, dx, fs, v, rfl, ha, c, n, l, q⟩
def SSX (v : V) (H1 : Hp) (Q : VK) : Prop := ∃ x : Str, v = .str x ∧ x.cps.size ≤ 4000 ∧ ∀ (ys : List Str) (p : Addr), SST.Own x ys → H1 p = none → Q (.ref p) (upd H1 p (.lst (ys.map V.str)))
theorem ss (h : te σ H fun v H1 => SSX v H1 Q) : SST.tSS te σ H Q := h
theorem ssV {z : Str} (hz : z.cps.size ≤ 4000) (h : ∀ ys p H', SST.Own z ys → H p = none → Same H H' → H' p = some (.lst (ys.map V.str)) → Q (.ref p) H') : SSX (.str z) H Q := ⟨z, rfl, hz, fun ys p ho hp => h ys p _ ho hp (RD.same_new hp) upd_same⟩
theorem w_str {z : Str} : Walk (Its z) z.cps.size (fun _ => True) (YAt (z.cps.toList.map fun c => V.str ⟨#[c]⟩)) := walk_str.mono (fun _ h => h) fun i H x H' _ _ y => by
  obtain ⟨rfl, c, hc, rfl⟩ := y
  refine ⟨rfl, ?_⟩
  rw [List.getElem?_map, Array.getElem?_toList, hc]
  rfl
end
section
variable {K : PySem.W.Frag} {σ : L2.St} {H : Hp} {ta tv : TE} {t : TA} {D : Ends} {Q : VK}
theorem setF {f : Str} (h : tv σ H fun y H1 => ta σ H1 fun x H2 => ∃ a C dx fs, x = .ref a ∧ H2 a = some (.ins C dx fs) ∧ Cls K C ∧ NoAttr K C f ∧ fs.length < 1000 ∧ D.nx σ (upd H2 a (.ins C dx (putF f y fs)))) : sFld K ta tv f D σ H := h
theorem setFV {a C dx : Addr} {fs : List (Str × V)} {y : V} {f : Str} {R : Hp → Prop} (ha : H a = some (.ins C dx fs)) (c : Cls K C) (n : NoAttr K C f) (l : fs.length < 1000) (q : ∀ H', RD.KB a H H' → H' a = some (.ins C dx (putF f y fs)) → R H') :
    ∃ b D dy gs, V.ref a = .ref b ∧ H b = some (.ins D dy gs) ∧ Cls K D ∧ NoAttr K D f ∧ gs.length < 1000 ∧ R (upd H b (.ins D dy (putF f y gs))) := ⟨a, C, dx, fs, rfl, ha, c, n, l, q _ RD.kb_upd upd_same⟩
def MakeX (C : Addr) (sp : Sp) (vs : List V) (E : XK) (H1 : Hp) (Q : VK) : Prop := ∀ x dx, H1 x = none → H1 dx = none → dx ≠ x → sp (.ref x :: vs) (upd (upd H1 dx (.own x)) x (.ins C dx [])) (fun v H2 => v = .non ∧ Q (.ref x) H2) E
theorem make {C : Addr} {sp : Sp} {dvs : List V} {E : XK} (h : t σ H fun vs H1 => MakeX C sp (vs ++ dvs) E H1 Q) : tMake C sp dvs E t σ H Q := h
theorem makeS {C : Addr} {sp : Sp} {dvs : List V} {E : L2.St → XK} (h : t σ H fun vs H1 => MakeX C sp (vs ++ dvs) (E σ) H1 Q) : NR.tMakeS C sp dvs E t σ H Q := h
/-- the new instance -/
theorem made {C : Addr} {H1 : Hp} {sp : Sp} {vs : List V} {E : XK} (h : ∀ x H2 dx, H1 x = none → Same H1 H2 → H2 x = some (.ins C dx []) → sp (.ref x :: vs) H2 (fun v H2 => v = .non ∧ Q (.ref x) H2) E) : MakeX C sp vs E H1 Q := fun x dx hx hd n =>
  h x _ dx hx (fun b o e => by
    have n1 : b ≠ x := fun z => by subst z; rw [hx] at e; cases e
    have n2 : b ≠ dx := fun z => by subst z; rw [hd] at e; cases e
    unfold upd
    rw [if_neg n1, if_neg n2]
    exact e) upd_same
end
/-- X(e) raised: the error's own dict d, all else as it was -/
theorem mkO {C : Addr} {fld : Str} {ta : TA} {σ : L2.St} {H : Hp} {Q : XK} (h : ta σ H fun vs H1 => vs.length ≤ 1000 ∧ ∀ a, H1 a = none → SPX.spSi C fld (.ref a :: (vs ++ [])) (upd H1 a (exo a C none))
    (fun v H2 => v = .non ∧ ∃ (d : Addr) (fs : List (Str × V)), H2 a = some (exo a C (some d)) ∧ H2 d = some (exd d fs) ∧ H1 d = none ∧ Q (.ref C) (some d) (upd (del H2 a) d (.xd fs))) (fun _ _ _ => False)) : tMkO C (SPX.spSi C fld) [] ta σ H Q := h
theorem mkOV {C : Addr} {fld : Str} {v : V} {H1 : Hp} {Q : XK} (h : ∀ d H', H1 d = none → Same H1 H' → H' d = some (.xd [(fld, v)]) → Q (.ref C) (some d) H') :
    [v].length ≤ 1000 ∧ ∀ a, H1 a = none → SPX.spSi C fld (.ref a :: ([v] ++ [])) (upd H1 a (exo a C none))
      (fun u H2 => u = .non ∧ ∃ (d : Addr) (fs : List (Str × V)), H2 a = some (exo a C (some d)) ∧ H2 d = some (exd d fs) ∧ H1 d = none ∧ Q (.ref C) (some d) (upd (del H2 a) d (.xd fs))) (fun _ _ _ => False) := by
  refine ⟨(by show 1 ≤ 1000; decide), fun a ha => ⟨a, v, rfl, upd_same, fun d hd n => ⟨rfl, d, [(fld, v)], upd_same, ?_, ?_, ?_⟩⟩⟩
  · rw [upd_ne n, upd_same]
  · rw [upd_ne n] at hd
    exact hd
  · have hd1 : H1 d = none := by
      rw [upd_ne n] at hd
      exact hd
    refine h d _ hd1 (fun b o e => ?_) upd_same
    have n1 : b ≠ a := fun z => by subst z; rw [ha] at e; cases e
    have n2 : b ≠ d := fun z => by subst z; rw [hd1] at e; cases e
    rw [upd_ne n2, del_ne n1, upd_ne n1, upd_ne n2, upd_ne n1]
    exact e
section
variable {σ : L2.St} {H : Hp} {Q : VK}
theorem xf {a C : Addr} {cls : Value} {d : Option Addr} {f : Str} {te : TE} (h : te σ H fun x H1 => x = .ref a ∧ cls = .ref C ∧ ∃ (dd : Addr) (fs : List (Str × V)) (v : V), d = some dd ∧ H1 dd = some (.xd fs) ∧ fs.lookup f = some v ∧ Q v H1) : tXf a cls d C f te σ H Q := h
theorem xfV {a C dd : Addr} {fs : List (Str × V)} {v : V} {f : Str} {R : V → Prop} (hd : H dd = some (.xd fs)) (l : fs.lookup f = some v) (q : R v) :
    V.ref a = .ref a ∧ Value.ref C = .ref C ∧ ∃ (dy : Addr) (gs : List (Str × V)) (u : V), some dd = some dy ∧ H dy = some (.xd gs) ∧ gs.lookup f = some u ∧ R u := ⟨rfl, rfl, dd, fs, v, rfl, hd, l, q⟩
end
theorem par3 {i j l : Nat} {tx : TA} {D : Ends} {σ : L2.St} {H : Hp} (h : tx σ H fun vs H1 => ∃ u v w, vs = [u, v, w] ∧ D.nx (((σ.set i (some u)).set j (some v)).set l (some w)) H1) : tPar3 i j l tx D σ H := h
theorem par3V {x y z : V} {R : V → V → V → Prop} (h : R x y z) : ∃ u v w, [x, y, z] = [u, v, w] ∧ R u v w := ⟨x, y, z, rfl, h⟩
theorem slS {z : Str} {lo hi : Option Int} {H : Hp} {Q : VK} (hz : z.length ≤ sizeLine) (q : Q (.str (cutS z lo hi)) H) : rSlS (.str z) lo hi H Q := ⟨z, rfl, hz, q⟩
/-! ### sizes, data of such lists -/
def LN (m : Nat) (xs : List V) : Prop := xs.length ≤ m
theorem LN.cut {m : Nat} {xs : List V} {lo hi : Option Int} (h : LN m xs) : LN m (cutV xs lo hi) := Nat.le_trans (cutV_length xs lo hi) h
theorem LN.app {m k : Nat} {xs ys : List V} (h : LN m xs) (g : LN k ys) : LN (m + k) (xs ++ ys) := by
  show (xs ++ ys).length ≤ m + k
  rw [List.length_append]
  exact Nat.add_le_add h g
theorem LN.rev {m : Nat} {xs : List V} (h : LN m xs) : LN m xs.reverse := by
  show xs.reverse.length ≤ m
  rw [List.length_reverse]
  exact h
theorem LN.lit {m : Nat} {xs : List V} (h : xs.length = m) : LN m xs := Nat.le_of_eq h
theorem LN.rep {m k : Nat} {xs : List V} (h : LN m xs) : LN (k * m) (List.replicate k xs).flatten := by
  show (List.replicate k xs).flatten.length ≤ k * m
  rw [List.length_flatten, List.map_replicate, List.sum_replicate_nat]
  exact Nat.mul_le_mul_left k h
theorem LN.sum {m k : Nat} {xs ys : List V} (h : LN m xs) (g : LN k ys) (e : Nat.ble (m + k) 16777216 = true) : xs.length + ys.length ≤ sizeLine := by
  rw [sizeLine_eq]
  exact Nat.le_trans (Nat.add_le_add h g) (Nat.le_of_ble_eq_true e)
open SPD in
theorem dqa_mem {x : Addr} {H : Hp} {n : Nat} : ∀ {ys : List V}, (∀ y, y ∈ ys → Dq x H n y) → DqA x H n ys
  | [], _ => .nil
  | y :: r, h => .cons (h y List.mem_cons_self) (dqa_mem fun z hz => h z (List.mem_cons_of_mem _ hz))
open SPD in
theorem dqa_cut {x : Addr} {H : Hp} {n : Nat} {xs : List V} {lo hi : Option Int} (h : DqA x H n xs) : DqA x H n (cutV xs lo hi) := dqa_mem fun y hy => h.mem y (by
  unfold cutV at hy
  exact List.mem_of_mem_drop (List.mem_of_mem_take hy))
open SPD in
theorem dqa_rev {x : Addr} {H : Hp} {n : Nat} {xs : List V} (h : DqA x H n xs) : DqA x H n xs.reverse := dqa_mem fun y hy => h.mem y (List.mem_reverse.mp hy)
open SPD in
theorem dqa_rep {x : Addr} {H : Hp} {n k : Nat} {xs : List V} (h : DqA x H n xs) : DqA x H n (List.replicate k xs).flatten := dqa_mem fun y hy => h.mem y (by
  obtain ⟨l, hl, hy⟩ := List.mem_flatten.mp hy
  rw [(List.mem_replicate.mp hl).2] at hy
  exact hy)
open SPD in
theorem dqa_strs {x : Addr} {H : Hp} {n : Nat} {zs : List Str} (h : ∀ z, z ∈ zs → z.cps.size ≤ 100000) : DqA x H n (zs.map V.str) := dqa_mem fun y hy => by
  obtain ⟨z, hz, rfl⟩ := List.mem_map.mp hy
  exact .leaf (Nat.ble_eq_true_of_le (h z hz))
open SPD in
theorem dqa_mono {x : Addr} {H : Hp} {n m : Nat} {xs : List V} (h : DqA x H n xs) (hm : n ≤ m) : DqA x H m xs := dqa_mem fun y hy => (h.mem y hy).mono m hm
open SPD in
theorem dqTupN {x : Addr} {H : Hp} {n m : Nat} {a : Addr} {xs : List V} (h : H a = some (.tup xs)) (ne : a ≠ x) (g : DqA x H n xs) (l : LN m xs) (e : Nat.ble m 16777216 = true) : Dq x H (n + 1) (.ref a) := .tup ne h (Nat.le_trans l (Nat.le_of_ble_eq_true e)) g.mem
open SPD in
theorem dqLstN {x : Addr} {H : Hp} {n m : Nat} {a : Addr} {xs : List V} (h : H a = some (.lst xs)) (ne : a ≠ x) (g : DqA x H n xs) (l : LN m xs) (e : Nat.ble m 16777216 = true) : Dq x H (n + 1) (.ref a) := .lst ne h (Nat.le_trans l (Nat.le_of_ble_eq_true e)) g.mem
theorem repL {l : Addr} {k : Int} {xs : List V} {H : Hp} {Q : VK} (hx : H l = some (.lst xs)) (hk : (-(2 ^ 63) ≤ k ∧ k < 2 ^ 63) ∧ xs.length * k.toNat ≤ sizeLine) (h : ∀ p H', H p = none → Same H H' → H' p = some (.lst (List.replicate k.toNat xs).flatten) → Q (.ref p) H') : rRep (.ref l) (.int k) H Q :=
  ⟨l, k, xs, rfl, rfl, hx, hk.1.1, hk.1.2, hk.2, fun p hp => h p _ hp (RD.same_new hp) upd_same⟩
def rMulS : R2 := fun x y H Q => ∃ z n, x = .str z ∧ y = .int n ∧ MulOk z n ∧ Q (.str (Txt.mul z n)) H
theorem addS {i j : Str} {R : Str → Str → Prop} (h : i.length + j.length ≤ sizeLine) (q : R i j) : ∃ a b, V.str i = .str a ∧ V.str j = .str b ∧ a.length + b.length ≤ sizeLine ∧ R a b := ⟨i, j, rfl, rfl, h, q⟩
section
variable {K : PySem.W.Frag} {σ : L2.St} {H : Hp} {Q : VK}
theorem bmS {z : Str} {R : Prop} (q : R) : tyV K "str" (.str z) H ∧ R := ⟨rfl, q⟩
theorem sw3 {x y : Str} {i : Int} {R : Str → Str → Int → Prop} (q : R x y i) : ∃ (a b : Str) (j : Int), V.str x = .str a ∧ [V.str y, V.int i] = [.str b, .int j] ∧ R a b j := ⟨x, y, i, rfl, rfl, q⟩
theorem ext {l b : Addr} {xs zs : List V} (h1 : H l = some (.lst xs)) (h2 : H b = some (.lst zs)) (hz : xs.length + zs.length ≤ sizeLine) (h : ∀ H2, RD.KB l H H2 → H2 l = some (.lst (xs ++ zs)) → Q .non H2) : rExtend (.ref l) [.ref b] H Q := ⟨l, b, xs, zs, rfl, rfl, h1, h2, hz, RD.mutn h⟩
end
theorem callS {sp : Sp} {E : L2.St → XK} {t : TA} {σ : L2.St} {H : Hp} {Q : VK} (h : t σ H fun vs H1 => sp vs H1 Q (E σ)) : tCallS sp E t σ H Q := h
end RB

/-! data apart from two changing objects (a bag and its list); more readings -/
namespace SPE
open PySem PySem.Spec PyProof.Rows L2
abbrev AX := Addr × Addr
def Off (b : Addr) (x : AX) : Prop := b ≠ x.1 ∧ b ≠ x.2
def KX (x : AX) (H H' : Hp) : Prop := ∀ b o, Off b x → H b = some o → H' b = some o
theorem KX.refl {x : AX} {H : Hp} : KX x H H := fun _ _ _ h => h
theorem KX.trans {x : AX} {H H1 H2 : Hp} (a : KX x H H1) (b : KX x H1 H2) : KX x H H2 := fun c o n h => b c o n (a c o n h)
theorem kx_of {x : AX} {H H' : Hp} (s : Same H H') : KX x H H' := fun b o _ h => s b o h
theorem kx_tr {x : AX} {H H1 H' : Hp} (h2 : KX x H1 H') (h1 : KX x H H1) : KX x H H' := h1.trans h2
theorem kx_trs {x : AX} {H H1 H' : Hp} (h2 : Same H1 H') (h1 : KX x H H1) : KX x H H' := h1.trans (kx_of h2)
theorem kx1 {x : AX} {H H1 H' : Hp} (h2 : RD.KB x.1 H1 H') (h1 : KX x H H1) : KX x H H' := fun b o n e => h2 b o n.1 (h1 b o n e)
theorem kx2 {x : AX} {H H1 H' : Hp} (h2 : RD.KB x.2 H1 H') (h1 : KX x H H1) : KX x H H' := fun b o n e => h2 b o n.2 (h1 b o n e)
/-- a fresh object changes -/
theorem kx_mut {x : AX} {H0 H H' : Hp} {p : Addr} (k : RD.KB p H H') (s : KX x H0 H) (n : H0 p = none) : KX x H0 H' := fun b o nb e => k b o (ne_of_none e n) (s b o nb e)
theorem at_kx {x : AX} {a : Addr} {H H' : Hp} {o : HO} (s : KX x H H') (n : Off a x) (h : H a = some o) : H' a = some o := s a o n h
theorem KX.seq {x : AX} {K : PySem.W.Frag} {H H' : Hp} {a : Addr} {xs : List V} (e : KX x H H') (n : Off a x) (h : SqL K H a xs) : SqL K H' a xs := by
  rcases h with (h | ⟨o, h⟩) | h
  · exact .inl (.inl (e _ _ n h))
  · exact .inl (.inr ⟨o, e _ _ n h⟩)
  · exact .inr h
theorem KX.tup {x : AX} {K : PySem.W.Frag} {H H' : Hp} {a : Addr} {xs : List V} (e : KX x H H') (n : Off a x) (h : SqT K H a xs) : SqT K H' a xs := by
  rcases h with (h | ⟨o, h⟩) | h
  · exact .inl (.inl (e _ _ n h))
  · exact .inl (.inr ⟨o, e _ _ n h⟩)
  · exact .inr h
inductive Dq (x : AX) (H : Hp) : Nat → V → Prop where
  | leaf {n : Nat} {v : V} : SPD.leaf v = true → Dq x H n v
  | dct {n : Nat} {a : Addr} {kvs : List (Key × V)} : Off a x → H a = some (.dK kvs) → (kvs.map (·.1)).Nodup → (∀ p ∈ kvs, flatB p.2 = true) → Dq x H n (.ref a)
  | tup {n : Nat} {a : Addr} {xs : List V} : Off a x → H a = some (.tup xs) → xs.length ≤ 16777216 → (∀ y, y ∈ xs → Dq x H n y) → Dq x H (n + 1) (.ref a)
  | lst {n : Nat} {a : Addr} {xs : List V} : Off a x → H a = some (.lst xs) → xs.length ≤ 16777216 → (∀ y, y ∈ xs → Dq x H n y) → Dq x H (n + 1) (.ref a)
theorem Dq.kx {x : AX} {H H' : Hp} (k : KX x H H') {n : Nat} {v : V} (h : Dq x H n v) : Dq x H' n v := by
  induction h with
  | leaf e => exact .leaf e
  | dct ne h nd fl => exact .dct ne (k _ _ ne h) nd fl
  | tup ne h hl _ ih => exact .tup ne (k _ _ ne h) hl ih
  | lst ne h hl _ ih => exact .lst ne (k _ _ ne h) hl ih
theorem Dq.same {x : AX} {H H' : Hp} (k : Same H H') {n : Nat} {v : V} (h : Dq x H n v) : Dq x H' n v := h.kx (kx_of k)
theorem Dq.mono {x : AX} {H : Hp} {n : Nat} {v : V} (h : Dq x H n v) : ∀ m, n ≤ m → Dq x H m v := by
  induction h with
  | leaf e => exact fun m _ => .leaf e
  | dct ne h nd fl => exact fun m _ => .dct ne h nd fl
  | tup ne h hl _ ih =>
    intro m hm
    obtain ⟨k, rfl⟩ : ∃ k, m = k + 1 := ⟨m - 1, by omega⟩
    exact .tup ne h hl fun y hy => ih y hy k (by omega)
  | lst ne h hl _ ih =>
    intro m hm
    obtain ⟨k, rfl⟩ : ∃ k, m = k + 1 := ⟨m - 1, by omega⟩
    exact .lst ne h hl fun y hy => ih y hy k (by omega)
theorem Dq.toA {x : AX} {H : Hp} {n : Nat} {v : V} (h : Dq x H n v) : SPD.Dq x.1 H n v := by
  induction h with
  | leaf e => exact .leaf e
  | dct ne h nd fl => exact .dct ne.1 h nd fl
  | tup ne h hl _ ih => exact .tup ne.1 h hl ih
  | lst ne h hl _ ih => exact .lst ne.1 h hl ih
theorem Dq.kd {K : PySem.W.Frag} {x : AX} {H : Hp} {n : Nat} {v : V} (h : Dq x H n v) : ∃ k, SPD.KdOf K H v k := h.toA.kd
inductive DqA (x : AX) (H : Hp) (n : Nat) : List V → Prop where
  | nil : DqA x H n []
  | cons {v : V} {vs : List V} : Dq x H n v → DqA x H n vs → DqA x H n (v :: vs)
theorem DqA.mem {x : AX} {H : Hp} {n : Nat} {vs : List V} (h : DqA x H n vs) : ∀ y, y ∈ vs → Dq x H n y := by
  induction h with
  | nil => exact fun y hy => nomatch hy
  | cons a _ ih =>
    intro y hy
    rcases List.mem_cons.mp hy with e | e
    · rw [e]; exact a
    · exact ih y e
theorem dqa_mem {x : AX} {H : Hp} {n : Nat} : ∀ {ys : List V}, (∀ y, y ∈ ys → Dq x H n y) → DqA x H n ys
  | [], _ => .nil
  | y :: r, h => .cons (h y List.mem_cons_self) (dqa_mem fun z hz => h z (List.mem_cons_of_mem _ hz))
theorem DqA.app {x : AX} {H : Hp} {n : Nat} {vs ws : List V} (h : DqA x H n vs) (g : DqA x H n ws) : DqA x H n (vs ++ ws) := by
  induction h with
  | nil => exact g
  | cons a _ ih => exact .cons a ih
theorem DqA.kx {x : AX} {H H' : Hp} {n : Nat} {vs : List V} (k : KX x H H') (h : DqA x H n vs) : DqA x H' n vs := dqa_mem fun y hy => (h.mem y hy).kx k
theorem DqA.mono {x : AX} {H : Hp} {n m : Nat} {vs : List V} (h : DqA x H n vs) (hm : n ≤ m) : DqA x H m vs := dqa_mem fun y hy => (h.mem y hy).mono m hm
theorem dq_kx {x : AX} {H H' : Hp} {n : Nat} {v : V} (h : Dq x H n v) (k : KX x H H') : Dq x H' n v := h.kx k
theorem dqTup {x : AX} {H : Hp} {n : Nat} {a : Addr} {xs : List V} (h : H a = some (.tup xs)) (ne : Off a x) (g : DqA x H n xs) (e : Nat.ble xs.length 16777216 = true := by rfl) : Dq x H (n + 1) (.ref a) := .tup ne h (Nat.le_of_ble_eq_true e) g.mem
theorem dqLst {x : AX} {H : Hp} {n : Nat} {a : Addr} {xs : List V} (h : H a = some (.lst xs)) (ne : Off a x) (g : DqA x H n xs) (e : Nat.ble xs.length 16777216 = true := by rfl) : Dq x H (n + 1) (.ref a) := .lst ne h (Nat.le_of_ble_eq_true e) g.mem
theorem dqNil {x : AX} {H : Hp} {n : Nat} {a : Addr} {kvs : List (Key × V)} (h : H a = some (.dK kvs)) (ne : Off a x) (nd : (kvs.map (·.1)).Nodup) (fl : ∀ p ∈ kvs, flatB p.2 = true) : Dq x H n (.ref a) := .dct ne h nd fl
theorem dqTupN {x : AX} {H : Hp} {n m : Nat} {a : Addr} {xs : List V} (h : H a = some (.tup xs)) (ne : Off a x) (g : DqA x H n xs) (l : RB.LN m xs) (e : Nat.ble m 16777216 = true) : Dq x H (n + 1) (.ref a) := .tup ne h (Nat.le_trans l (Nat.le_of_ble_eq_true e)) g.mem
theorem dqLstN {x : AX} {H : Hp} {n m : Nat} {a : Addr} {xs : List V} (h : H a = some (.lst xs)) (ne : Off a x) (g : DqA x H n xs) (l : RB.LN m xs) (e : Nat.ble m 16777216 = true) : Dq x H (n + 1) (.ref a) := .lst ne h (Nat.le_trans l (Nat.le_of_ble_eq_true e)) g.mem
theorem dqa_cut {x : AX} {H : Hp} {n : Nat} {xs : List V} {lo hi : Option Int} (h : DqA x H n xs) : DqA x H n (cutV xs lo hi) := dqa_mem fun y hy => h.mem y (by
  unfold cutV at hy
  exact List.mem_of_mem_drop (List.mem_of_mem_take hy))
theorem dqa_rev {x : AX} {H : Hp} {n : Nat} {xs : List V} (h : DqA x H n xs) : DqA x H n xs.reverse := dqa_mem fun y hy => h.mem y (List.mem_reverse.mp hy)
theorem dqa_rep {x : AX} {H : Hp} {n k : Nat} {xs : List V} (h : DqA x H n xs) : DqA x H n (List.replicate k xs).flatten := dqa_mem fun y hy => h.mem y (by
  obtain ⟨l, hl, hy⟩ := List.mem_flatten.mp hy
  rw [(List.mem_replicate.mp hl).2] at hy
  exact hy)
section
variable {K : PySem.W.Frag} {σ : L2.St} {H : Hp} {Q : VK} {te : TE}
theorem sum1 {a : Addr} {ns : List Int} (hx : SqL K H a (ns.map V.int)) (q : Q (.int ns.sum) H) : rSum K [.ref a] H Q := ⟨a, ns, rfl, hx, q⟩
theorem popAt {l : Addr} {xs : List V} {i : Int} {k : Nat} {y : V} (h1 : H l = some (.lst xs)) (hi : -(2 ^ 63) ≤ i ∧ i < 2 ^ 63) (hk : seqIndex? i xs.length = some k) (hy : xs[k]? = some y) (h : ∀ H2, RD.KB l H H2 → H2 l = some (.lst (xs.eraseIdx k)) → Q y H2) : rPopAt (.ref l) [.int i] H Q := ⟨l, xs, i, k, y, rfl, rfl, h1, hi.1, hi.2, hk, hy, RD.mutn h⟩
/-- where a sign stands first -/
def placeOf (z : Str) (c : Nat) : Nat := (Builtin.Str.occurrences z ⟨#[c]⟩ 0 z.length 1).headD 0
/-- z[::-1] -/
def revS (z : Str) : Str := ⟨z.cps.toList.reverse.toArray⟩
theorem rev_pick (z : Str) : (Builtin.Str.strSliceIndices none none (-1) z.length).filterMap (z.cps[·]?) = z.cps.toList.reverse := by
  rw [picked_rev, filterMap_get, List.map_map]
  · refine List.ext_getElem? fun i => ?_
    have e : z.length = z.cps.size := rfl
    have l : z.cps.toList.length = z.cps.size := Array.length_toList
    rw [e]
    by_cases h : i < z.cps.size
    · rw [List.getElem?_map, List.getElem?_range h, List.getElem?_reverse (by omega), l, Array.getElem?_toList, Array.getElem?_eq_getElem (by omega)]
      show some (z.cps.getD (z.cps.size - 1 - i) 0) = _
      rw [Array.getD_eq_getD_getElem?, Array.getElem?_eq_getElem (by omega)]
      rfl
    · rw [List.getElem?_eq_none (by rw [List.length_map, List.length_range]; omega), List.getElem?_eq_none (by rw [List.length_reverse, l]; omega)]
  · intro i hi
    obtain ⟨k, hk, rfl⟩ := List.mem_map.mp hi
    have hk' : k < z.length := List.mem_range.mp hk
    have e : z.length = z.cps.size := rfl
    omega
def RevSX (x : V) (H1 : Hp) (Q : VK) : Prop := ∃ z, x = .str z ∧ z.length ≤ sizeLine ∧ Q (.str (revS z)) H1
def tRevS (te : TE) : TE := fun σ H Q => te σ H fun x H1 => RevSX x H1 Q
theorem revs (h : te σ H fun x H1 => RevSX x H1 Q) : tRevS te σ H Q := h
theorem revsV {z : Str} (hz : z.length ≤ sizeLine) (q : Q (.str (revS z)) H) : RevSX (.str z) H Q := ⟨z, rfl, hz, q⟩
theorem pe_revS {X : Cx} {e : Expr} {te : TE} {k : Nat} {p1 p2 p3 pos : Pos} (he : PE X e te) : PE X (.Subscript e (.Slice none none (some (.UnaryOp .USub (.Constant (.int 1) k p1) p2)) p3) pos) (tRevS te) := by
  refine ⟨fun pins s σ H Q I h => ?_⟩
  refine Subscript_ (thn (he.run pins s σ H _ I h) fun v s1 ⟨x, H1, I1, r1, q1⟩ => ?_)
  obtain ⟨z, rfl, hz, q⟩ := q1
  obtain ⟨t, rfl⟩ := r1
  have st : PO X (some (.UnaryOp .USub (.Constant (.int 1) k p1) p2)) (tPart (tUn (rU fun i => .int (-i)) (tC (.int 1)))) := po_some (pe_un un_neg pe_int)
  refine wpAny_Slice (thn (po_none.run pins s1 σ H1 (fun o H2 => o = none ∧ H2 = H1) I1 ⟨rfl, rfl⟩) fun vl s2 ⟨l, H2, I2, pl, el, e2⟩ => ?_)
  subst el e2
  refine thn (po_none.run pins s2 σ H2 (fun o H3 => o = none ∧ H3 = H2) I2 ⟨rfl, rfl⟩) fun vu s3 ⟨u, H3, I3, pu, eu, e3⟩ => ?_
  subst eu e3
  refine thn (st.run pins s3 σ H3 (fun o H4 => o = some (-1) ∧ H4 = H3) I3 ⟨1, rfl, -1, rfl, rfl, rfl⟩) fun vs s4 ⟨o, H4, I4, ps, eo, e4⟩ => ?_
  subst eo e4
  have I5 : Inv X pins σ H4 { s4 with heap := s4.heap.push { cls := .type "slice", data := .fields #[vl, vu, vs] } } := I4.kept (t' := s4.toks) fun b ob q => Heap.get?_push_of_some _ q
  obtain ⟨l, rfl, hl⟩ := IsPart.raw pl
  obtain ⟨u, rfl, hu⟩ := IsPart.raw pu
  obtain ⟨w, rfl, hw⟩ := IsPart.raw ps
  cases l with
  | some l => cases hl
  | none =>
    cases u with
    | some u => cases hu
    | none =>
      cases w with
      | none => cases hw
      | some w =>
        obtain ⟨wi, wt⟩ := w
        have ew : wi = -1 := by simpa using hw
        subst ew
        show wpAny (model X.prog X.w) X.A (subscriptTail e (.Slice none none (some (.UnaryOp .USub (.Constant (.int 1) k p1) p2)) p3) (.str z t) (.ref s4.heap.objs.size)) (EP X pins σ Q) X.xe { s4 with heap := s4.heap.push { cls := .type "slice", data := .fields #[_, _, _] } }
        refine tail_any (ops := [.str z t, .ref s4.heap.objs.size]) (typeIs_str _ _ _) (F.slot_str_getitem.lookup) ?_ (by with_unfolding_all rfl)
        obtain ⟨os, hos, hcs, hds⟩ := Heap.IsSliceOf.new s4.heap _ _ _
        refine wpAny_getItem_str_slice (l := none) (u := none) (st := some (-1, wt)) ⟨os, hos, hcs, hds⟩ rfl ?_
        have e1 := rev_pick z
        show Made.post (if ((-1 : Int) == 1 && (Builtin.Str.strSliceIndices none none (-1) z.length).length == z.length) = true then Made.val (.str z t)
          else Made.str ⟨((Builtin.Str.strSliceIndices none none (-1) z.length).filterMap (z.cps[·]?)).toArray⟩) (EP X pins σ Q) _
        rw [if_neg (by rw [show ((-1 : Int) == 1) = false from rfl, Bool.false_and]; decide), e1]
        refine ⟨?_, .str (revS z), H4, I5.tok _, ⟨_, rfl⟩, q⟩
        show (z.cps.toList.reverse.toArray).size ≤ sizeLine
        rw [List.size_toArray, List.length_reverse, Array.length_toList]
        exact hz
end
theorem room1 {k : Nat} {A : Around} (r : Room k A) : A.units + 1 < cLine := by
  have := r.un
  omega
theorem pe_joinK {X : Cx} {K : PySem.W.Frag} (hK : X.K = K) {o e : Expr} {to te : TE} {apos pos : Pos} (ho : PE X o to) (he : PE X e te) (hs : starEach [e] X.env = [(false, eval e X.env)] := by rfl) (hbase : attributeBase o "join" X.env (eval o X.env) = eval o X.env := by rfl) (hline : (apos.endLine == pos.line) = true := by rfl) :
    PE X (.Call (.Attribute o "join" apos) [e] [] pos) (tM1 (fun x xs H Q => ∃ a p, ∃ ys : List Str, x = .str a ∧ xs = [.ref p] ∧ (SqL K H p (ys.map V.str) ∨ SqT K H p (ys.map V.str)) ∧
      (ys.map (·.length)).sum + ys.length * a.length ≤ 16777216 ∧ Q (.str (Txt.join a ys)) H) to te) := by
  subst hK
  exact pe_join ho he hs hbase hline
end SPE

/-! dicts: update, comprehensions, locks; min and max with a default -/
namespace FR
open PySem PySem.Spec PyProof.Rows L2
section
variable {X : Cx}
/-! ### d.update(d2) -/
def rUpdD : V → List V → Hp → VK → Prop := fun x vs H Q => ∃ d o kvs more, x = .ref d ∧ vs = [.ref o] ∧ d ≠ o ∧ H d = some (.dK kvs) ∧ H o = some (.dK more) ∧ kvs.length + more.length ≤ sizeLine ∧ Q .non (upd H d (.dK (mergeK kvs more)))
theorem mt_updD : MtR X "dict.update" rUpdD := by
  intro pins s σ H x xs v us Q I rx rv h
  obtain ⟨d, o, kvs, more, rfl, rfl, hne, hd, ho, hz, q⟩ := h
  cases rx
  obtain ⟨u, rfl, ru⟩ := rv.one
  cases ru
  obtain ⟨z, hsd, vs, rel, dd⟩ := dk_of I.hok hd
  obtain ⟨z2, hsd2, vs2, rel2, dd2⟩ := dk_of I.hok ho
  refine call_meetsIn PySem.F.slot_dict_update dd.typeIs PySem.F.entry_dict_update (PySem.F.args_dict_update_2 _ _) (meets_dict_update (mixKind X.prog X.w) d o hne hsd2)
    ⟨vs, vs2, dd, dd2, by rw [← rel.length, ← rel2.length]; exact hz, fun h' dd' _ hs => ?_⟩
  have he : ∃ q, h'.get? d = some q := let ⟨q, _, _, hq, _⟩ := dd'; ⟨q, hq⟩
  exact ⟨.non, _, d_write I (by rw [hd]; exact True.intro) hs he (dk_new (Nat.le_trans (length_mergeK more kvs) hz) hsd (KV.merge rel2 rel) dd'), rfl, q⟩
/-! ### min of texts, max of numbers with a default -/
def rMinS (K : PySem.W.Frag) : List V → Hp → VK → Prop := fun vs H Q => ∃ (a : Addr) (ss : List Str), vs = [V.ref a] ∧ SqL K H a (ss.map V.str) ∧ 0 < ss.length ∧ ∀ m, m ∈ ss → Q (.str m) H
def rMaxDef (K : PySem.W.Frag) : List V → List V → Hp → VK → Prop := fun vs zs H Q => ∃ (a : Addr) (ns : List Int) (d : V), vs = [V.ref a] ∧ zs = [d] ∧ SqL K H a (ns.map V.int) ∧ (ns = [] → Q d H) ∧ ∀ m, m ∈ ns → (∀ y, y ∈ ns → y ≤ m) → Q (.int m) H
end
/-! ### a locked dict -/
section
variable {K : PySem.W.Frag} {σ : L2.St} {H : Hp} {Q : VK}
/-- what a locked reading must bring -/
def UL (d : Addr) (od : Obj) (u : HO) (R : Hp → Prop) (H' : Hp) : Prop := H' d = some (.frz od u) ∧ R (upd H' d u)
theorem lockE {t : TE} {d : Addr} {kvs : List (Key × V)} (hd : H d = some (.dK kvs)) (h : ∀ od Hf, RD.KB d H Hf → Hf d = some (.frz od (.dK kvs)) → t σ Hf fun v H' => UL d od (.dK kvs) (Q v) H') : tLockE t σ H Q :=
  ⟨d, .dK kvs, hd, trivial, fun od => h od _ RD.kb_upd upd_same⟩
theorem ul {d : Addr} {od : Obj} {u : HO} {R : Hp → Prop} {H' : Hp} (h : H' d = some (.frz od u)) (q : ∀ H2, RD.KB d H' H2 → H2 d = some u → R H2) : UL d od u R H' := ⟨h, q _ RD.kb_upd upd_same⟩
theorem lockS {t : TS} {D : Ends} {d : Addr} {kvs : List (Key × V)} (hd : H d = some (.dK kvs)) (h : ∀ od Hf, RD.KB d H Hf → Hf d = some (.frz od (.dK kvs)) → t ⟨fun σ' H' => UL d od (.dK kvs) (D.nx σ') H', fun v H' => UL d od (.dK kvs) (D.rt v) H', fun σ' H' => UL d od (.dK kvs) (D.bk σ') H', fun σ' H' => UL d od (.dK kvs) (D.ct σ') H'⟩ σ Hf) : tLock t D σ H :=
  ⟨d, .dK kvs, hd, trivial, fun od => h od _ RD.kb_upd upd_same⟩
theorem unlock {d : Addr} {H Hf H' H2 : Hp} {o : HO} (k1 : RD.KB d H Hf) (s : Same Hf H') (k2 : RD.KB d H' H2) (e2 : H2 d = some o) (e : H d = some o) : Same H H2 := fun b x hb => by
  by_cases z : b = d
  · subst z
    rw [e2, ← e]
    exact hb
  · exact k2 _ _ z (s _ _ (k1 _ _ z hb))
theorem keysV {d : Addr} {o : Obj} {kvs : List (Key × V)} {S : Addr → Obj → List (Key × V) → Prop} {T : Addr → Obj → List (List Key × V) → Prop} {H1 : Hp} (hd : H1 d = some (.frz o (.dK kvs))) (q : S d o kvs) :
    ∃ d' o', V.ref d = .ref d' ∧ ((∃ kvs, H1 d' = some (.frz o' (.dK kvs)) ∧ S d' o' kvs) ∨ ∃ kvs, H1 d' = some (.frz o' (.dT kvs)) ∧ T d' o' kvs) := ⟨d, o, rfl, .inl ⟨kvs, hd, q⟩⟩
theorem valsV {d : Addr} {o : Obj} {kvs : List (Key × V)} {S : Addr → Obj → List (Key × V) → Prop} {H1 : Hp} (hd : H1 d = some (.frz o (.dK kvs))) (q : S d o kvs) : ∃ d' o' kvs', V.ref d = .ref d' ∧ H1 d' = some (.frz o' (.dK kvs')) ∧ S d' o' kvs' := ⟨d, o, kvs, rfl, hd, q⟩
end
/-! ### a comprehension that makes a dict -/
def DcG (J : It) (g : TG) (tt : TT) (tk tv : TE) (vs : List Nat) (σ : L2.St) (H1 : Hp) (Q : VK) : Prop := ∀ D, H1 D = none → ∃ W : Nat → Nat → Hp → Prop, (∃ m, W 0 m (upd H1 D (.dK []))) ∧ ∀ i m H, W i m H →
  (J.stop i H ∧ Q (.ref D) H) ∨ (J.go i H ∧ ∃ Nx : Hp → Prop, (∀ H', Nx H' → ∃ m', m' < m ∧ W (i + 1) m' H') ∧ ∀ x H', J.yld i H x H' → g x (wipe σ vs) H' fun σ2 H2 => wipe σ2 vs = wipe σ vs ∧ tt σ2 H2 fun b H3 =>
    if b = true then tk σ2 H3 fun y H4 => tv σ2 H4 fun z H5 => ∃ kvs k, y = kV k ∧ H5 D = some (.dK kvs) ∧ kvs.length < sizeLine ∧ Nx (upd H5 D (.dK (putK kvs k z))) else Nx H3)
section
variable {K : PySem.W.Frag} {J : It} {n : Nat} {G : Hp → Prop} {Y : Nat → Hp → V → Hp → Prop} {g : TG} {tt : TT} {tk tv : TE} {vs : List Nat} {σ : L2.St} {H1 H : Hp} {Q : VK} {wi : TI}
theorem dc (h : wi σ H fun J H1 => DcG J g tt tk tv vs σ H1 Q) : tDc wi g tt tk tv vs σ H Q := h
theorem dcW (w : Walk J n G Y) (hn : n ≤ 16777216)
    (h : ∀ D H2, H1 D = none → Same H1 H2 → H2 D = some (.dK []) → ∃ Pv : Nat → List (Key × V) → Hp → Prop, Pv 0 [] H2 ∧ (∀ i acc H, i ≤ n → Pv i acc H → G H) ∧
      (∀ i x acc H H' (Z : V → V → Hp → Prop) (N : Hp → Prop), i < n → Pv i acc H → H D = some (.dK acc) → Y i H x H' →
        (∀ k y H4, H4 D = some (.dK acc) → (∀ H5, RD.KB D H4 H5 → H5 D = some (.dK (putK acc k y)) → Pv (i + 1) (putK acc k y) H5) → Z (kV k) y H4) → (∀ H4, H4 D = some (.dK acc) → Pv (i + 1) acc H4 → N H4) →
        g x (wipe σ vs) H' fun σ2 H2 => wipe σ2 vs = wipe σ vs ∧ tt σ2 H2 fun b H3 => if b = true then tk σ2 H3 fun y H4 => tv σ2 H4 fun z H5 => Z y z H5 else N H3) ∧
      (∀ acc H, Pv n acc H → H D = some (.dK acc) → Q (.ref D) H)) : DcG J g tt tk tv vs σ H1 Q := by
  intro D hD
  obtain ⟨Pv, p0, pG, ps, pd⟩ := h D (upd H1 D (.dK [])) hD (RD.same_new hD) upd_same
  refine ⟨fun i m H => m = n - i ∧ i ≤ n ∧ ∃ acc, acc.length ≤ i ∧ H D = some (.dK acc) ∧ Pv i acc H, ⟨n, by simp, Nat.zero_le _, [], Nat.le_refl _, upd_same, p0⟩, ?_⟩
  rintro i m H ⟨rfl, hi, acc, hl, hDa, p⟩
  have q := pG i acc H hi p
  by_cases hlt : i < n
  · refine .inr ⟨w.goes i H hlt q, fun H' => ∃ acc, acc.length ≤ i + 1 ∧ H' D = some (.dK acc) ∧ Pv (i + 1) acc H', fun H' p' => ⟨n - (i + 1), by omega, rfl, hlt, p'⟩, fun x H' y => ?_⟩
    refine ps i x acc H H' _ _ hlt p hDa (w.yields i H x H' hlt q y) (fun k y H4 h1 h2 => ⟨acc, k, rfl, h1, by rw [sizeLine_eq]; omega, putK acc k y, ?_, upd_same, h2 _ RD.kb_upd upd_same⟩) (fun H4 h1 h2 => ⟨acc, by omega, h1, h2⟩)
    have := length_putK acc k y
    omega
  · have e : i = n := by omega
    subst e
    exact .inl ⟨w.stops H q, pd acc H p hDa⟩
end
/-! ### readings of dicts -/
section
variable {K : PySem.W.Frag} {σ : L2.St} {H : Hp} {Q : VK} {td ty tv : TE} {t : TS} {D : Ends}
theorem dget (h : td σ H fun x H1 => ty σ H1 fun y H2 => ∃ a v, x = .ref a ∧ DGet H2 a y (some v) ∧ Q v H2) : tDGet td ty σ H Q := h
theorem din (h : ty σ H fun y H1 => td σ H1 fun x H2 => ∃ a o, x = .ref a ∧ DGet H2 a y o ∧ Q (.bl o.isSome) H2) : tDIn ty td σ H Q := h
theorem dnotin (h : ty σ H fun y H1 => td σ H1 fun x H2 => ∃ a o, x = .ref a ∧ DGet H2 a y o ∧ Q (.bl (!o.isSome)) H2) : tDNotIn ty td σ H Q := h
theorem dgetS {a : Addr} {kvs : List (Key × V)} {z : Str} {v : V} {R : V → Prop} (hd : Rd H a (.dK kvs)) (hv : valV kvs (Sum.inr z) = some v) (q : R v) : ∃ b u, V.ref a = .ref b ∧ DGet H b (.str z) (some u) ∧ R u :=
  ⟨a, v, rfl, .inl ⟨kvs, Sum.inr z, hd, rfl, hv.symm⟩, q⟩
theorem dinS {a : Addr} {kvs : List (Key × V)} {z : Str} {R : Option V → Prop} (hd : Rd H a (.dK kvs)) (q : R (valV kvs (Sum.inr z))) : ∃ b o, V.ref a = .ref b ∧ DGet H b (.str z) o ∧ R o :=
  ⟨a, _, rfl, .inl ⟨kvs, Sum.inr z, hd, rfl, rfl⟩, q⟩
theorem dinI {a : Addr} {kvs : List (Key × V)} {n : Int} {R : Option V → Prop} (hd : Rd H a (.dK kvs)) (q : R (valV kvs (Sum.inl n))) : ∃ b o, V.ref a = .ref b ∧ DGet H b (.int n) o ∧ R o :=
  ⟨a, _, rfl, .inl ⟨kvs, Sum.inl n, hd, rfl, rfl⟩, q⟩
theorem dputS {a : Addr} {kvs : List (Key × V)} {z : Str} {v : V} {R : Hp → Prop} (hd : H a = some (.dK kvs)) (hl : kvs.length < sizeLine) (q : ∀ H', RD.KB a H H' → H' a = some (.dK (putK kvs (Sum.inr z) v)) → R H') : rSetD (.ref a) (.str z) v H R :=
  ⟨a, _, rfl, DPut.k (k := Sum.inr z) hd hl, q _ RD.kb_upd upd_same⟩
theorem ikeys {td : TE} {R : It → Hp → Prop} (h : td σ H fun x H1 => ∃ d o, x = .ref d ∧ ((∃ kvs, H1 d = some (.frz o (.dK kvs)) ∧ R (Itk d o kvs) H1) ∨ ∃ kvs, H1 d = some (.frz o (.dT kvs)) ∧ R (Itkt d o kvs) H1)) : iKeys td σ H R := h
theorem ivals {td : TE} {R : It → Hp → Prop} (h : td σ H fun x H1 => ∃ d o kvs, x = .ref d ∧ H1 d = some (.frz o (.dK kvs)) ∧ R (Itd d o kvs) H1) : iVals td σ H R := h
theorem rd_of {a : Addr} {o : HO} (h : H a = some o) : Rd H a o := .inl h
theorem w_keys {d : Addr} {o : Obj} {kvs : List (Key × V)} : Walk (Itk d o kvs) kvs.length (fun H => H d = some (.frz o (.dK kvs))) (YAt (kvs.map fun p => kV p.1)) := walk_keys.mono (fun _ h => h) fun i H x H' _ _ y => by
  obtain ⟨rfl, k, v, hk, rfl⟩ := y
  refine ⟨rfl, ?_⟩
  rw [List.getElem?_map, hk]
  rfl
theorem upd1 {l b : Addr} {kvs more : List (Key × V)} (h1 : H l = some (.dK kvs)) (h2 : H b = some (.dK more)) (ne : l ≠ b) (hz : kvs.length + more.length ≤ sizeLine) (h : ∀ H2, RD.KB l H H2 → H2 l = some (.dK (mergeK kvs more)) → Q .non H2) : rUpdD (.ref l) [.ref b] H Q := ⟨l, b, kvs, more, rfl, rfl, ne, h1, h2, hz, h _ RD.kb_upd upd_same⟩
theorem bmD {p : Addr} {kvs : List (Key × V)} {R : Prop} (hx : H p = some (.dK kvs)) (h : R) : tyV K "dict" (.ref p) H ∧ R := ⟨.inr (.inr (.inl ⟨rfl, .inl ⟨kvs, hx⟩⟩)), h⟩
theorem whileG {c : TT} {tb : TS} (Pv : Nat → L2.St → Hp → Prop) (n : Nat) (h0 : Pv n σ H)
    (hs : ∀ m σ H, Pv m σ H → c σ H fun b H1 => if b = true then ∃ N : L2.St → Hp → Prop, (∀ σ' H', N σ' H' → ∃ m', m' < m ∧ Pv m' σ' H') ∧ tb { D with nx := N, ct := N, bk := D.nx } σ H1 else D.nx σ H1) : tWhile c tb D σ H := ⟨Pv, ⟨n, h0⟩, hs⟩
theorem wnext {tb : TS} {m : Nat} {W : Nat → L2.St → Hp → Prop} {B : L2.St → Hp → Prop} {R : VK} (h : tb { nx := fun σ' H' => ∃ m', m' < m ∧ W m' σ' H', rt := R, bk := B, ct := fun σ' H' => ∃ m', m' < m ∧ W m' σ' H' } σ H) :
    ∃ N : L2.St → Hp → Prop, (∀ σ' H', N σ' H' → ∃ m', m' < m ∧ W m' σ' H') ∧ tb { nx := N, rt := R, bk := B, ct := N } σ H := ⟨_, fun _ _ z => z, h⟩
theorem bm0 {T : String} {r : V → List V → Hp → VK → Prop} {to : TE} (h : to σ H fun x H1 => tyV K T x H1 ∧ r x [] H1 Q) : tBM0 K T r to σ H Q := h
theorem popV {l : Addr} {ys : List V} {y : V} (h : H l = some (.lst (ys ++ [y]))) (q : ∀ H2, RD.KB l H H2 → H2 l = some (.lst ys) → Q y H2) : rPop (.ref l) [] H Q :=
  ⟨l, ys ++ [y], y, rfl, rfl, h, by simp, by rw [List.dropLast_concat]; exact q _ RD.kb_upd upd_same⟩
/-! ### what a dict with text keys holds -/
def kvm {α : Type} (k : α → Str) (v : α → V) (l : List α) : List (Key × V) := l.map fun a => (Sum.inr (k a), v a)
theorem kvm_len {α : Type} (k : α → Str) (v : α → V) (l : List α) : (kvm k v l).length = l.length := List.length_map ..
theorem inr_eq {a b : Str} : ((Sum.inr a : Key) = Sum.inr b) ↔ a = b := ⟨fun h => Sum.inr.inj h, fun h => by rw [h]⟩
theorem kvm_some {α : Type} (k : α → Str) (v : α → V) (f : Str) : ∀ l : List α, (valV (kvm k v l) (Sum.inr f)).isSome = decide (f ∈ l.map k)
  | [] => rfl
  | a :: l => by
    have ih := kvm_some k v f l
    by_cases e : k a = f
    · show (valV ((Sum.inr (k a), v a) :: _) _).isSome = _
      rw [valV_pos (by rw [e])]
      simp [e]
    · show (valV ((Sum.inr (k a), v a) :: kvm k v l) _).isSome = _
      rw [valV_neg (fun z => e (inr_eq.mp z)), ih]
      have : (f ∈ (a :: l).map k) ↔ f ∈ l.map k := by
        rw [List.map_cons, List.mem_cons]
        exact ⟨fun h => h.resolve_left (fun z => e z.symm), .inr⟩
      rw [decide_eq_decide, this]
theorem kvm_put {α : Type} {k : α → Str} {v : α → V} {l : List α} {a : α} (h : k a ∉ l.map k) : putK (kvm k v l) (Sum.inr (k a)) (v a) = kvm k v (l ++ [a]) := by
  unfold putK
  have e : ((kvm k v l).any fun kv => decide (kv.1 = (Sum.inr (k a) : Key))) = false := by
    rw [List.any_eq_false]
    intro kv hm
    obtain ⟨b, hb, rfl⟩ := List.mem_map.mp hm
    rw [decide_eq_true_eq]
    exact fun z => h (List.mem_map.mpr ⟨b, hb, inr_eq.mp z⟩)
  rw [e, if_neg (by decide)]
  unfold kvm
  rw [List.map_append]
  rfl
theorem ckw {r : List V → List V → Hp → VK → Prop} {t tk : TA} (h : t σ H fun vs H1 => tk σ H1 fun zs H2 => r vs zs H2 Q) : tCKw r t tk σ H Q := h
theorem lenD {a : Addr} {kvs : List (Key × V)} {R : List (Key × V) → Prop} (hx : H a = some (.dK kvs)) (q : R kvs) : ∃ b ks, [V.ref a] = [V.ref b] ∧ H b = some (.dK ks) ∧ R ks := ⟨a, kvs, rfl, hx, q⟩
theorem dget2 {tx : TE} (h : td σ H fun x H1 => ∃ a, x = .ref a ∧ IsD H1 a ∧ ty σ H1 fun y H2 => tx σ H2 fun z H3 => ∃ o, DGet H3 a y o ∧ Q (o.getD z) H3) : tDGet2 td ty tx σ H Q := h
theorem isdV {a : Addr} {kvs : List (Key × V)} {R : Addr → Prop} (hd : Rd H a (.dK kvs)) (q : R a) : ∃ b, V.ref a = .ref b ∧ IsD H b ∧ R b := ⟨a, rfl, .inl ⟨kvs, hd⟩, q⟩
theorem dg2S {a : Addr} {kvs : List (Key × V)} {z : Str} {R : Option V → Prop} (hd : Rd H a (.dK kvs)) (q : R (valV kvs (Sum.inr z))) : ∃ o, DGet H a (.str z) o ∧ R o := ⟨_, .inl ⟨kvs, Sum.inr z, hd, rfl, rfl⟩, q⟩
end
end FR

/-! free texts, in plain Lean: fronts, the machine of fronts, rounds -/
namespace FL
abbrev W := List Nat
/-- a piece stands at the end -/
def ends (ps : List W) (w : W) : Bool := ps.any fun p => p.isSuffixOf w
def Free (ps : List W) (w : W) : Prop := ∀ p, p ∈ ps → ¬ p <:+: w
def Front (ps : List W) (f : W) : Prop := f = [] ∨ ∃ p, p ∈ ps ∧ ∃ i, i < p.length ∧ f = p.take i
theorem Front.pre {ps : List W} {s : W} {a : Nat} (h : Front ps (s ++ [a])) : Front ps s := by
  rcases h with h | ⟨p, hp, i, hi, e⟩
  · simp at h
  · refine .inr ⟨p, hp, s.length, ?_, ?_⟩
    · have := congrArg List.length e
      rw [List.length_append, List.length_take, List.length_singleton] at this
      omega
    · have h1 : (s ++ [a]).take s.length = s := by simp
      rw [e, List.take_take] at h1
      rw [show min s.length i = s.length by
        have := congrArg List.length e
        rw [List.length_append, List.length_take, List.length_singleton] at this
        omega] at h1
      exact h1.symm
theorem ends_of {ps : List W} {w : W} (h : ∀ p, p ∈ ps → ¬ p <:+ w) : ends ps w = false := by
  unfold ends
  rw [List.any_eq_false]
  exact fun p hp e => h p hp (List.isSuffixOf_iff_suffix.mp e)
/-- the longest end that is a front -/
def lf (fs : List W) : W → W
  | [] => []
  | a :: l => if (a :: l) ∈ fs then a :: l else lf fs l
/-! ### the machine -/
def Stp (ps fs : List W) (own : W) (q : W) (a : Nat) (r : W) : Prop := a ∈ own ∧ ends ps (q ++ [a]) = false ∧ r = lf fs (q ++ [a])
inductive Run (S : W → Nat → W → Prop) (q : W) : W → W → Prop where
  | nil : Run S q [] q
  | snoc {w r s : W} {a : Nat} : Run S q w r → S r a s → Run S q (w ++ [a]) s
theorem Run.app {S : W → Nat → W → Prop} {q w r v s : W} (h : Run S q w r) (g : Run S r v s) : Run S q (w ++ v) s := by
  induction g with
  | nil => rw [List.append_nil]; exact h
  | snoc _ st ih => rw [← List.append_assoc]; exact .snoc ih st
def rep (n : Nat) (v : W) : W := (List.replicate n v).flatten
theorem rep_succ (n : Nat) (v : W) : rep (n + 1) v = v ++ rep n v := by
  unfold rep
  rw [List.replicate_succ, List.flatten_cons]
theorem rep_succ' (n : Nat) (v : W) : rep (n + 1) v = rep n v ++ v := by
  unfold rep
  rw [List.replicate_succ', List.flatten_append]
  simp
theorem rep_length (n : Nat) (v : W) : (rep n v).length = n * v.length := by
  unfold rep
  rw [List.length_flatten, List.map_replicate, List.sum_replicate_nat]
theorem Run.rounds {S : W → Nat → W → Prop} {q v : W} (g : Run S q v q) : ∀ n, Run S q (rep n v) q
  | 0 => .nil
  | n + 1 => by rw [rep_succ']; exact (g.rounds n).app g
theorem Run.split {S : W → Nat → W → Prop} {q w s : W} (h : Run S q w s) : ∀ k, k ≤ w.length → ∃ r, Run S q (w.take k) r ∧ Run S r (w.drop k) s := by
  induction h with
  | nil =>
    intro k hk
    exact ⟨q, by simpa using Run.nil, by simpa using Run.nil⟩
  | @snoc w r s a _ st ih =>
    intro k hk
    by_cases e : k ≤ w.length
    · obtain ⟨m, h1, h2⟩ := ih k e
      refine ⟨m, by rw [List.take_append_of_le_length e]; exact h1, ?_⟩
      rw [List.drop_append_of_le_length e]
      exact .snoc h2 st
    · have e : k = (w ++ [a]).length := by
        rw [List.length_append, List.length_singleton] at *
        omega
      subst e
      refine ⟨s, ?_, by simpa using Run.nil⟩
      rw [List.take_length]
      exact .snoc ‹_› st
section
variable {ps fs : List W} {own : W}
end
/-! ### rounds: free however often -/
theorem inf_of_drop {p x : W} {i : Nat} (h : p <+: x.drop i) : p <:+: x := by
  obtain ⟨t, ht⟩ := h
  exact ⟨x.take i, t, by rw [List.append_assoc, ht, List.take_append_drop]⟩
theorem inf_iff {p x : W} : p <:+: x ↔ ∃ i, i + p.length ≤ x.length ∧ p <+: x.drop i := by
  constructor
  · rintro ⟨s, t, e⟩
    refine ⟨s.length, by rw [← e]; simp only [List.length_append]; omega, t, ?_⟩
    rw [← e, List.append_assoc, List.drop_left]
  · rintro ⟨i, _, h⟩
    exact inf_of_drop h
theorem pre_more (u v : W) {n m : Nat} (h : n ≤ m) : u ++ rep n v <+: u ++ rep m v := by
  obtain ⟨k, rfl⟩ : ∃ k, m = n + k := ⟨m - n, by omega⟩
  refine ⟨rep k v, ?_⟩
  unfold rep
  rw [List.append_assoc, ← List.flatten_append, List.replicate_append_replicate]
theorem rounds_few {u v p : W} {M k : Nat} (hv : 0 < v.length) (hp : p.length ≤ M) (hk : M / v.length + 2 ≤ k) : ∀ n, p <:+: u ++ rep n v → p <:+: u ++ rep k v
  | n, h => by
    by_cases hn : n ≤ k
    · exact h.trans (pre_more u v hn).isInfix
    · obtain ⟨m, rfl⟩ : ∃ m, n = m + 1 := ⟨n - 1, by omega⟩
      obtain ⟨i, hi, hpi⟩ := inf_iff.mp h
      by_cases c : u.length + v.length ≤ i
      · refine rounds_few hv hp hk m (inf_of_drop (i := i - v.length) ?_)
        have e1 : (u ++ rep (m + 1) v).drop i = (rep m v).drop (i - u.length - v.length) := by
          rw [rep_succ, ← List.append_assoc, List.drop_append, List.drop_of_length_le (by rw [List.length_append]; omega), List.nil_append, List.length_append]
          congr 1
          omega
        have e2 : (u ++ rep m v).drop (i - v.length) = (rep m v).drop (i - u.length - v.length) := by
          rw [List.drop_append, List.drop_of_length_le (by omega), List.nil_append]
          congr 1
          omega
        rw [e2, ← e1]
        exact hpi
      · obtain ⟨t, ht⟩ := pre_more u v (n := k) (m := m + 1) (by omega)
        have hd : M < (M / v.length + 1) * v.length := by
          have := Nat.div_add_mod M v.length
          have h2 := Nat.mod_lt M hv
          rw [Nat.add_mul, Nat.one_mul, Nat.mul_comm]
          omega
        have hd2 : (M / v.length + 1) * v.length + v.length ≤ k * v.length := by
          have := Nat.mul_le_mul_right v.length hk
          rw [show M / v.length + 2 = (M / v.length + 1) + 1 by omega, Nat.add_mul _ 1, Nat.one_mul] at this
          exact this
        have hlen : i + p.length ≤ (u ++ rep k v).length := by
          rw [List.length_append, rep_length]
          omega
        refine inf_of_drop (i := i) ?_
        rw [← ht, List.drop_append_of_le_length (by omega)] at hpi
        exact List.prefix_of_prefix_length_le hpi (List.prefix_append _ _) (by rw [List.length_drop]; omega)
  termination_by n => n
/-- both looks are one -/
theorem looks {ps : List W} {u v : W} {M : Nat} (hv : 0 < v.length) (hM : ∀ p, p ∈ ps → p.length ≤ M) (h16 : M ≤ 16) :
    (Free ps u ∧ Free ps (u ++ rep (M / v.length + 2) v)) ↔ Free ps (u ++ rep (2 + 16 / v.length) v) := by
  have hle : M / v.length + 2 ≤ 2 + 16 / v.length := by
    have := Nat.div_le_div_right (c := v.length) h16
    omega
  constructor
  · rintro ⟨_, h⟩ p hp z
    exact h p hp (rounds_few hv (hM p hp) (Nat.le_refl _) _ z)
  · intro h
    refine ⟨fun p hp z => h p hp (z.trans ⟨[], _, rfl⟩), fun p hp z => h p hp (z.trans (pre_more u v hle).isInfix)⟩
/-! ### texts of the model -/
open PySem in
theorem sub_at {x y : Str} {i : Nat} (h : i + y.length ≤ x.length) : Builtin.Str.subAt x y i = true ↔ y.cps.toList <+: x.cps.toList.drop i := by
  have e1 : x.length = x.cps.toList.length := Array.length_toList.symm
  have e2 : y.length = y.cps.toList.length := Array.length_toList.symm
  unfold Builtin.Str.subAt
  rw [beq_iff_eq, ← Array.toList_inj, Array.toList_extract, List.extract_eq_drop_take, List.prefix_iff_eq_take, e2, show i + y.cps.toList.length - i = y.cps.toList.length by omega]
  exact eq_comm
open PySem in
theorem in_iff (x y : Str) : (!(Builtin.Str.occurrences x y 0 x.length 1).isEmpty) = decide (y.cps.toList <:+: x.cps.toList) := by
  have e1 : x.length = x.cps.toList.length := Array.length_toList.symm
  have e2 : y.length = y.cps.toList.length := Array.length_toList.symm
  rw [Bool.eq_iff_iff, StrLaws.found_iff, decide_eq_true_eq, inf_iff]
  constructor
  · rintro ⟨i, h, s⟩
    exact ⟨i, by omega, (sub_at h).mp s⟩
  · rintro ⟨i, h, s⟩
    exact ⟨i, by omega, (sub_at (by omega)).mpr s⟩
open PySem in
theorem ends_iff (x y : Str) : Txt.endswith x y = y.cps.toList.isSuffixOf x.cps.toList := by
  have e1 : x.length = x.cps.toList.length := Array.length_toList.symm
  have e2 : y.length = y.cps.toList.length := Array.length_toList.symm
  rw [Bool.eq_iff_iff, List.isSuffixOf_iff_suffix]
  unfold Txt.endswith
  rw [Bool.and_eq_true, decide_eq_true_eq]
  constructor
  · rintro ⟨h, s⟩
    obtain ⟨t, ht⟩ := (sub_at (by omega)).mp s
    have hl := congrArg List.length ht
    rw [List.length_append, List.length_drop] at hl
    have : t = [] := List.eq_nil_of_length_eq_zero (by omega)
    subst this
    rw [List.append_nil] at ht
    exact ⟨x.cps.toList.take (x.length - y.length), by rw [ht, List.take_append_drop]⟩
  · rintro ⟨t, ht⟩
    have hl := congrArg List.length ht
    rw [List.length_append] at hl
    refine ⟨by omega, (sub_at (by omega)).mpr ⟨[], ?_⟩⟩
    rw [List.append_nil, ← ht, List.drop_append, List.drop_of_length_le (by omega), show x.length - y.length - t.length = 0 by omega]
    simp
theorem sub_len {α : Type} [DecidableEq α] : ∀ {l m : List α}, l.Nodup → (∀ c, c ∈ l → c ∈ m) → l.length ≤ m.length
  | [], _, _, _ => Nat.zero_le _
  | a :: l, m, n, h => by
    have ha := h a List.mem_cons_self
    have n2 := List.nodup_cons.mp n
    have ih := sub_len (l := l) (m := m.erase a) n2.2 fun c hc => (List.mem_erase_of_ne (a := c) (b := a) (fun e => n2.1 (by rw [← e]; exact hc))).mpr (h c (List.mem_cons_of_mem _ hc))
    rw [List.length_erase_of_mem ha] at ih
    have := List.length_pos_of_mem ha
    rw [List.length_cons]
    omega
end FL

/-! several except clauses, each with the same name; count of flags; sums of a dict's values -/
namespace TM
open PySem PySem.Spec PyProof.Rows L2
abbrev Cl := Value × (Addr → Value → Option Addr → TS)
/-- the clauses' wishes, one after the other -/
def wAsM (K : PySem.W.Frag) (i : Nat) (W0 : WX) (D : Ends) : List Cl → WX
  | [] => W0
  | p :: r => wAs K p.1 i p.2 (wAsM K i W0 D r) D
inductive ClOk (X : Cx) (n : Str) : List ExceptHandler → List Cl → Prop
  | nil : ClOk X n [] []
  | cons {y : Str} {c : Value} {ts : Addr → Value → Option Addr → TS} {s0 : Stmt} {ss : List Stmt} {p1 p2 : Pos} {hr : List ExceptHandler} {lr : List Cl} (hc : Names X y c)
      (hsu : ∀ (a : Addr) (oe : Obj) (cls : Value) (d : Option Addr) (pn : List (Addr × Obj)), Zc cls d oe → (∃ vs, oe.data = .fields vs) → PSs (X.suite a ((a, oe) :: pn)) (s0 :: ss) (ts a cls d)) (r : ClOk X n hr lr) :
      ClOk X n (.ExceptHandler (some (.Name y p1)) (some n) (s0 :: ss) p2 :: hr) ((c, ts) :: lr)
section
variable {X : Cx} {n : Str} {i : Nat} {body : List Stmt} {h0 : ExceptHandler} {hr : List ExceptHandler} {l : List Cl} {pos : Pos} {tb : WX → TS} {W0 : WX}
/-- isinstance of the error that a suite holds, an error without fields -/
def rIsC (K : PySem.W.Frag) (a : Addr) (cls : Value) (d : Option Addr) : List V → Hp → VK → Prop := fun xs H Q => ∃ C, cls = .ref C ∧ d = none ∧ ExcC K C ∧ rIsE K C a xs H Q
/-- xs.count(b), xs a list of truth values -/
def rCountB (K : PySem.W.Frag) : V → List V → Hp → VK → Prop := fun x vs H Q => ∃ (p : Addr) (bs : List Bool) (b : Bool), x = .ref p ∧ vs = [.bl b] ∧ SqL K H p (bs.map V.bl) ∧ Q (.int (bs.count b)) H
/-- sum(d.values()), whole numbers -/
def tSumV (td : TE) : TE := fun σ H Q => td σ H fun x H1 => ∃ (d : Addr) (kvs : List (Key × V)) (ns : List Int), x = .ref d ∧ H1 d = some (.dK kvs) ∧ kvs.map Prod.snd = ns.map V.int ∧ Q (.int ns.sum) H1
end
end TM

/-! idle texts: by putting pieces in, and by stretches -/
namespace IL
abbrev W := List Nat
inductive Idle (ps : List W) : W → Prop where
  | nil : Idle ps []
  | put {u w p : W} : p ∈ ps → Idle ps (u ++ w) → Idle ps (u ++ p ++ w)
/-- the signs of p, behind each of them an idle stretch -/
inductive G (ps : List W) : W → W → Prop where
  | nil : G ps [] []
  | cons (a : Nat) {p q s w : W} : (q = [] ∨ q ∈ ps) → G ps q s → G ps p w → G ps (a :: p) (a :: (s ++ w))
def S (ps : List W) (w : W) : Prop := ∃ q, (q = [] ∨ q ∈ ps) ∧ G ps q w
variable {ps : List W}
theorem G.empty {w : W} (h : G ps [] w) : w = [] := by cases h; rfl
theorem S.nil : S ps [] := ⟨[], .inl rfl, .nil⟩
theorem G.app {p u : W} (h : G ps p u) : p ≠ [] → ∀ v, S ps v → G ps p (u ++ v) := by
  induction h with
  | nil => exact fun e => absurd rfl e
  | @cons a p q s w hq gs gp ihs ihp =>
    intro _ v hv
    by_cases ep : p = []
    · subst ep
      have ew := gp.empty
      subst ew
      by_cases eq : q = []
      · subst eq
        have es := gs.empty
        subst es
        obtain ⟨r, hr, gr⟩ := hv
        have := G.cons a hr gr (.nil (ps := ps))
        simpa using this
      · have := G.cons a hq (ihs eq v hv) (.nil (ps := ps))
        simpa using this
    · have := G.cons a hq gs (ihp ep v hv)
      simpa using this
theorem S.app {u v : W} (h : S ps u) (g : S ps v) : S ps (u ++ v) := by
  obtain ⟨q, hq, gq⟩ := h
  by_cases e : q = []
  · subst e
    rw [gq.empty]
    exact g
  · exact ⟨q, hq, gq.app e v g⟩
theorem G.insert {m : W} (hm : S ps m) {p x : W} (h : G ps p x) : ∀ u w, x = u ++ w → u ≠ [] → G ps p (u ++ m ++ w) := by
  induction h with
  | nil =>
    intro u w e hu
    have := List.append_eq_nil_iff.mp e.symm
    exact absurd this.1 hu
  | @cons a p q s w' hq gs gp ihs ihp =>
    intro u w e hu
    obtain ⟨b, u', rfl⟩ : ∃ b u', u = b :: u' := by
      cases u with
      | nil => exact absurd rfl hu
      | cons b u' => exact ⟨b, u', rfl⟩
    have e1 : a = b := by
      have := congrArg List.head? e
      simpa using this
    subst e1
    have e2 : s ++ w' = u' ++ w := by simpa using e
    rcases List.append_eq_append_iff.mp e2 with ⟨t, h1, h2⟩ | ⟨t, h1, h2⟩
    · -- u' = s ++ t, w' = t ++ w
      subst h1
      by_cases et : t = []
      · subst et
        obtain ⟨r, hr, gr⟩ := S.app (ps := ps) (u := s) ⟨q, hq, gs⟩ hm
        have := G.cons a hr gr gp
        simp at h2
        subst h2
        simpa using this
      · have := G.cons a hq gs (ihp t w h2 et)
        simpa using this
    · -- s = u' ++ t, w = t ++ w'
      subst h2
      have hs : S ps (u' ++ m ++ t) := by
        by_cases eu : u' = []
        · subst eu
          have := S.app (v := s) hm ⟨q, hq, gs⟩
          rw [h1] at this
          simpa using this
        · exact ⟨q, hq, ihs u' t h1 eu⟩
      obtain ⟨r, hr, gr⟩ := hs
      have := G.cons a hr gr gp
      simpa using this
theorem S.insert {m u w : W} (hm : S ps m) (h : S ps (u ++ w)) : S ps (u ++ m ++ w) := by
  by_cases e : u = []
  · subst e
    exact hm.app h
  · obtain ⟨q, hq, g⟩ := h
    exact ⟨q, hq, g.insert hm u w rfl e⟩
theorem G.self : ∀ p : W, G ps p p
  | [] => .nil
  | a :: p => G.cons a (.inl rfl) .nil (G.self p)
theorem S.of_idle {w : W} (h : Idle ps w) : S ps w := by
  induction h with
  | nil => exact .nil
  | put hp _ ih => exact S.insert ⟨_, .inr hp, G.self _⟩ ih
theorem Idle.insert {m : W} (hm : Idle ps m) : ∀ u w, Idle ps (u ++ w) → Idle ps (u ++ m ++ w) := by
  induction hm with
  | nil => intro u w h; simpa using h
  | @put x y p hp _ ih =>
    intro u w h
    have := ih u w h
    have e : u ++ (x ++ y) ++ w = (u ++ x) ++ (y ++ w) := by simp
    rw [e] at this
    have := Idle.put hp this
    simpa using this
theorem G.idle {p w : W} (h : G ps p w) : (∀ u v, Idle ps (u ++ p ++ v) → Idle ps (u ++ w ++ v)) := by
  induction h with
  | nil => exact fun u v h => h
  | @cons a p q s w hq gs gp ihs ihp =>
    intro u v h
    have e1 : u ++ (a :: p) ++ v = (u ++ [a]) ++ p ++ v := by simp
    rw [e1] at h
    have h2 := ihp _ _ h
    have hs : Idle ps s := by
      rcases hq with rfl | hq
      · rw [gs.empty]
        exact .nil
      · have := ihs [] [] (by simpa using Idle.put (u := []) (w := []) hq .nil)
        simpa using this
    have h3 := hs.insert (u ++ [a]) (w ++ v) (by simpa using h2)
    simpa using h3
theorem idle_iff {w : W} : Idle ps w ↔ S ps w := by
  refine ⟨S.of_idle, fun ⟨q, hq, g⟩ => ?_⟩
  rcases hq with rfl | hq
  · rw [g.empty]
    exact .nil
  · have := g.idle [] [] (by simpa using Idle.put (u := []) (w := []) hq .nil)
    simpa using this
/-! ### stretches of a log -/
theorem G.snoc {p u : W} {a : Nat} {s : W} (h : G ps p u) (hs : S ps s) : G ps (p ++ [a]) (u ++ a :: s) := by
  induction h with
  | nil =>
    obtain ⟨q, hq, g⟩ := hs
    have := G.cons a hq g (.nil (ps := ps))
    simpa using this
  | @cons c p q t w hq gs gp ihs ihp =>
    have := G.cons c hq gs ihp
    simpa using this
theorem G.unsnoc : ∀ {p : W} {a : Nat} {w : W}, G ps (p ++ [a]) w → ∃ u s, w = u ++ a :: s ∧ G ps p u ∧ S ps s
  | [], a, w, h => by
    cases h with
    | @cons _ _ q s w' hq gs gp =>
      refine ⟨[], s, ?_, .nil, q, hq, gs⟩
      rw [gp.empty]
      simp
  | c :: p, a, w, h => by
    cases h with
    | @cons _ _ q s w' hq gs gp =>
      obtain ⟨u, t, rfl, g1, g2⟩ := G.unsnoc (p := p) gp
      refine ⟨c :: (s ++ u), t, by simp, .cons c hq gs g1, g2⟩
/-- the stretch of L from b to e -/
def st (L : W) (b e : Nat) : W := (L.drop b).take (e - b)
theorem st_self (L : W) (b : Nat) : st L b b = [] := by unfold st; simp
theorem st_all (L : W) : st L 0 L.length = L := by unfold st; simp
theorem st_len {L : W} {b e : Nat} (h : b ≤ e) (g : e ≤ L.length) : (st L b e).length = e - b := by
  unfold st
  rw [List.length_take, List.length_drop]
  omega
theorem st_split {L : W} {b h e : Nat} (h1 : b ≤ h) (h2 : h ≤ e) : st L b e = st L b h ++ st L h e := by
  unfold st
  have e1 : e - b = (h - b) + (e - h) := by omega
  rw [e1, List.take_add, List.drop_drop]
  have e2 : b + (h - b) = h := by omega
  rw [e2]
theorem st_cons {L : W} {h e a : Nat} (hl : L[h]? = some a) (he : h < e) : st L h e = a :: st L (h + 1) e := by
  obtain ⟨hh, ha⟩ := List.getElem?_eq_some_iff.mp hl
  unfold st
  have e1 : e - h = (e - (h + 1)) + 1 := by omega
  rw [List.drop_eq_getElem_cons hh, e1, List.take_succ_cons, ha]
/-- the stretch from b to e is idle -/
def I (ps : List W) (L : W) (b e : Nat) : Prop := b ≤ e ∧ e ≤ L.length ∧ S ps (st L b e)
/-- the stretch from b to e has the signs of p, behind each an idle stretch -/
def GP (ps : List W) (L : W) (p : W) (b e : Nat) : Prop := b ≤ e ∧ e ≤ L.length ∧ G ps p (st L b e)
theorem GP.nil_iff {L : W} {b e : Nat} (hb : b ≤ L.length) : GP ps L [] b e ↔ e = b := by
  constructor
  · rintro ⟨h1, h2, h3⟩
    have := congrArg List.length h3.empty
    rw [st_len h1 h2] at this
    simp at this
    omega
  · rintro rfl
    exact ⟨Nat.le_refl _, hb, by rw [st_self]; exact .nil⟩
theorem GP.snoc_iff {L p : W} {a b e : Nat} : GP ps L (p ++ [a]) b e ↔ ∃ h, GP ps L p b h ∧ L[h]? = some a ∧ I ps L (h + 1) e := by
  constructor
  · rintro ⟨h1, h2, h3⟩
    obtain ⟨u, s, e1, g1, g2⟩ := h3.unsnoc
    have hl := congrArg List.length e1
    rw [st_len h1 h2, List.length_append, List.length_cons] at hl
    have hh : b + u.length ≤ e := by omega
    have e2 := st_split (L := L) (b := b) (h := b + u.length) (e := e) (by omega) hh
    rw [e1] at e2
    have l1 : (st L b (b + u.length)).length = u.length := by rw [st_len (by omega) (by omega)]; omega
    obtain ⟨e3, e4⟩ := List.append_inj e2 l1.symm
    have hlt : b + u.length < L.length := by omega
    have ha : L[b + u.length]? = some (L[b + u.length]) := List.getElem?_eq_getElem hlt
    have e5 := st_cons ha (show b + u.length < e by omega)
    rw [e5] at e4
    obtain ⟨e6, e7⟩ := List.cons.inj e4
    refine ⟨b + u.length, ⟨by omega, by omega, by rw [← e3]; exact g1⟩, by rw [ha, e6], by omega, h2, by rw [← e7]; exact g2⟩
  · rintro ⟨h, ⟨h1, h2, h3⟩, ha, h4, h5, h6⟩
    refine ⟨by omega, h5, ?_⟩
    rw [st_split (h := h) h1 (by omega), st_cons ha (by omega)]
    exact h3.snoc h6
theorem I.iff {L : W} {b e : Nat} (hb : b ≤ L.length) : I ps L b e ↔ e = b ∨ ∃ p, p ∈ ps ∧ GP ps L p b e := by
  constructor
  · rintro ⟨h1, h2, q, hq, g⟩
    rcases hq with rfl | hq
    · exact .inl ((GP.nil_iff hb).mp ⟨h1, h2, g⟩)
    · exact .inr ⟨q, hq, h1, h2, g⟩
  · rintro (rfl | ⟨p, hp, h1, h2, g⟩)
    · exact ⟨Nat.le_refl _, hb, by rw [st_self]; exact .nil⟩
    · exact ⟨h1, h2, p, .inr hp, g⟩
theorem idle_all {L : W} : Idle ps L ↔ I ps L 0 L.length := by
  rw [idle_iff]
  unfold I
  rw [st_all]
  exact ⟨fun h => ⟨Nat.zero_le _, Nat.le_refl _, h⟩, fun h => h.2.2⟩
end IL

/-! dicts whose keys are whole numbers from 0 on, each with True -/
namespace IK
open PySem PySem.Spec PyProof.Rows L2
def ki (n : Nat) : Key := Sum.inl (n : Int)
def tt (ns : List Nat) : List (Key × V) := ns.map fun n => (ki n, V.bl true)
def put1 (ns : List Nat) (n : Nat) : List Nat := if n ∈ ns then ns else ns ++ [n]
def putN (ns ms : List Nat) : List Nat := ms.foldl put1 ns
theorem ki_inj {a b : Nat} : ki a = ki b ↔ a = b := ⟨fun h => Int.ofNat.inj (Sum.inl.inj h), fun h => by rw [h]⟩
theorem tt_val (ns : List Nat) (n : Nat) : (valV (tt ns) (ki n)).isSome = decide (n ∈ ns) := by
  induction ns with
  | nil => rfl
  | cons a ns ih =>
    by_cases e : a = n
    · subst e
      show (valV ((ki a, V.bl true) :: _) _).isSome = _
      rw [valV_pos rfl]
      simp
    · show (valV ((ki a, V.bl true) :: tt ns) _).isSome = _
      rw [valV_neg (fun z => e (ki_inj.mp z)), ih]
      have : (n ∈ a :: ns) ↔ n ∈ ns := by
        rw [List.mem_cons]
        exact ⟨fun h => h.resolve_left (fun z => e z.symm), .inr⟩
      rw [decide_eq_decide, this]
theorem tt_put (ns : List Nat) (n : Nat) : putK (tt ns) (ki n) (V.bl true) = tt (put1 ns n) := by
  unfold putK put1
  have e : ((tt ns).any fun kv => decide (kv.1 = ki n)) = decide (n ∈ ns) := by
    rw [Bool.eq_iff_iff, List.any_eq_true, decide_eq_true_eq]
    constructor
    · rintro ⟨kv, hm, h⟩
      obtain ⟨a, ha, rfl⟩ := List.mem_map.mp hm
      have := ki_inj.mp (of_decide_eq_true h)
      rw [← this]
      exact ha
    · intro h
      exact ⟨_, List.mem_map.mpr ⟨n, h, rfl⟩, decide_eq_true rfl⟩
  rw [e]
  by_cases h : n ∈ ns
  · rw [if_pos (decide_eq_true h), if_pos h]
    unfold tt
    rw [List.map_map]
    refine List.map_congr_left fun a _ => ?_
    show (if ki a = ki n then (ki a, V.bl true) else (ki a, V.bl true)) = _
    split <;> rfl
  · rw [if_neg (by rw [decide_eq_false h]; decide), if_neg h]
    unfold tt
    rw [List.map_append]
    rfl
theorem tt_merge (ms : List Nat) : ∀ ns, mergeK (tt ns) (tt ms) = tt (putN ns ms) := by
  induction ms with
  | nil => exact fun ns => rfl
  | cons m ms ih =>
    intro ns
    show mergeK (putK (tt ns) (ki m) (V.bl true)) (tt ms) = _
    rw [tt_put, ih]
    rfl
theorem put1_mem (ns : List Nat) (n k : Nat) : k ∈ put1 ns n ↔ k ∈ ns ∨ k = n := by
  unfold put1
  split
  · rename_i h
    exact ⟨.inl, fun z => z.elim id fun e => e ▸ h⟩
  · rw [List.mem_append, List.mem_singleton]
theorem putN_mem (ms : List Nat) : ∀ ns k, k ∈ putN ns ms ↔ k ∈ ns ∨ k ∈ ms := by
  induction ms with
  | nil => exact fun ns k => by simp [putN]
  | cons m ms ih =>
    intro ns k
    show k ∈ putN (put1 ns m) ms ↔ _
    rw [ih, put1_mem, List.mem_cons, or_assoc]
theorem put1_nodup {ns : List Nat} (h : ns.Nodup) (n : Nat) : (put1 ns n).Nodup := by
  unfold put1
  split
  · exact h
  · rename_i hn
    exact List.nodup_append.mpr ⟨h, by simp, fun a ha b hb e => by
      rw [List.mem_singleton] at hb
      exact hn (hb ▸ e ▸ ha)⟩
theorem putN_nodup (ms : List Nat) : ∀ ns : List Nat, ns.Nodup → (putN ns ms).Nodup := by
  induction ms with
  | nil => exact fun ns h => h
  | cons m ms ih => exact fun ns h => ih _ (put1_nodup h m)
theorem tt_len (ns : List Nat) : (tt ns).length = ns.length := List.length_map ..
theorem tt_keys (ns : List Nat) : ((tt ns).map fun p => kV p.1) = ns.map fun n : Nat => V.int (n : Int) := by
  unfold tt
  rw [List.map_map]
  rfl
/-- all numbers below a bound: few -/
theorem few {ns : List Nat} {m : Nat} (n : ns.Nodup) (h : ∀ k, k ∈ ns → k ≤ m) : ns.length ≤ m + 1 := by
  have := FL.sub_len (m := List.range (m + 1)) n fun k hk => List.mem_range.mpr (Nat.lt_succ_of_le (h k hk))
  rwa [List.length_range] at this
/-! ### the program's table of ends, without the program -/
abbrev W := List Nat
/-- spots behind the first signs of a piece -/
def Spots (ps : List W) (L : W) (b : Nat) (p : W) (x : Nat) : Prop := ∃ q a h, p = q ++ [a] ∧ x = h + 1 ∧ IL.GP ps L q b h ∧ L[h]? = some a
theorem spots_one {ps : List W} {L : W} {b a x : Nat} (hb : b ≤ L.length) : Spots ps L b [a] x ↔ x = b + 1 ∧ L[b]? = some a := by
  constructor
  · rintro ⟨q, c, h, e, rfl, g, hl⟩
    obtain ⟨rfl, rfl⟩ : q = [] ∧ c = a := by
      cases q with
      | nil => simp at e; exact ⟨rfl, e.symm⟩
      | cons y q => simp at e
    have := (IL.GP.nil_iff hb).mp g
    subst this
    exact ⟨rfl, hl⟩
  · rintro ⟨rfl, hl⟩
    exact ⟨[], a, b, rfl, rfl, (IL.GP.nil_iff hb).mpr rfl, hl⟩
theorem spots_more {ps : List W} {L p : W} {b a x : Nat} (hp : p ≠ []) : Spots ps L b (p ++ [a]) x ↔ ∃ y, Spots ps L b p y ∧ ∃ h, x = h + 1 ∧ IL.I ps L y h ∧ L[h]? = some a := by
  constructor
  · rintro ⟨q, c, h, e, rfl, g, hl⟩
    obtain ⟨e1, e2⟩ := List.append_inj' e rfl
    subst e1
    have e3 : a = c := by simpa using e2
    subst e3
    obtain ⟨r, d, rfl⟩ : ∃ r d, p = r ++ [d] := by
      rcases List.eq_nil_or_concat p with z | ⟨r, d, z⟩
      · exact absurd z hp
      · exact ⟨r, d, by rw [z, List.concat_eq_append]⟩
    obtain ⟨h2, g2, hl2, i2⟩ := IL.GP.snoc_iff.mp g
    exact ⟨h2 + 1, ⟨r, d, h2, rfl, rfl, g2, hl2⟩, h, rfl, i2, hl⟩
  · rintro ⟨y, ⟨r, d, h2, rfl, rfl, g2, hl2⟩, h, rfl, i2, hl⟩
    exact ⟨r ++ [d], a, h, rfl, rfl, IL.GP.snoc_iff.mpr ⟨h2, g2, hl2, i2⟩, hl⟩
theorem ends_of {ps : List W} {L : W} {b e : Nat} (hb : b ≤ L.length) (hne : ∀ p, p ∈ ps → p ≠ []) : IL.I ps L b e ↔ e = b ∨ ∃ p, p ∈ ps ∧ ∃ x, Spots ps L b p x ∧ IL.I ps L x e := by
  rw [IL.I.iff hb]
  refine or_congr Iff.rfl ⟨?_, ?_⟩
  · rintro ⟨p, hp, g⟩
    obtain ⟨r, d, rfl⟩ : ∃ r d, p = r ++ [d] := by
      rcases List.eq_nil_or_concat p with z | ⟨r, d, z⟩
      · exact absurd z (hne p hp)
      · exact ⟨r, d, by rw [z, List.concat_eq_append]⟩
    obtain ⟨h, g2, hl, i⟩ := IL.GP.snoc_iff.mp g
    exact ⟨_, hp, h + 1, ⟨r, d, h, rfl, rfl, g2, hl⟩, i⟩
  · rintro ⟨p, hp, x, ⟨r, d, h, rfl, rfl, g2, hl⟩, i⟩
    exact ⟨_, hp, IL.GP.snoc_iff.mpr ⟨h, g2, hl, i⟩⟩
theorem spots_le {ps : List W} {L p : W} {b x : Nat} (h : Spots ps L b p x) : b < x ∧ x ≤ L.length := by
  obtain ⟨q, a, k, _, rfl, g, hl⟩ := h
  obtain ⟨hk, _⟩ := List.getElem?_eq_some_iff.mp hl
  have := g.1
  omega
end IK

/-! the fact of bases: plain -/
namespace BAS
open IL
theorem trans {ps qs : List W} (h : ∀ q, q ∈ qs → Idle ps q) {w : W} (g : Idle qs w) : Idle ps w := by
  induction g with
  | nil => exact .nil
  | @put u w p hp _ ih => exact Idle.insert (h _ hp) u w ih
theorem none_idle {w : W} (h : Idle [] w) : w = [] := by
  have key : ∀ ps : List W, Idle ps w → ps = [] → w = [] := fun ps h e => by
    cases h with
    | nil => rfl
    | put hp _ => rw [e] at hp; exact absurd hp List.not_mem_nil
  exact key [] h rfl
theorem self {ps : List W} {p : W} (h : p ∈ ps) : Idle ps p := by
  have := Idle.put (u := []) (w := []) h Idle.nil
  simpa using this
theorem mono {ps qs : List W} (h : ∀ q, q ∈ qs → q ∈ ps) {w : W} (g : Idle qs w) : Idle ps w := trans (fun q hq => self (h q hq)) g
/-- by pieces that are not longer -/
theorem long {ps : List W} {w : W} (g : Idle ps w) : Idle (ps.filter fun p => decide (p.length ≤ w.length)) w := by
  induction g with
  | nil => exact .nil
  | @put u w p hp _ ih =>
    refine .put (List.mem_filter.mpr ⟨hp, decide_eq_true (by simp; omega)⟩) (mono (fun q hq => ?_) ih)
    obtain ⟨h1, h2⟩ := List.mem_filter.mp hq
    have h2 := of_decide_eq_true h2
    exact List.mem_filter.mpr ⟨h1, decide_eq_true (by simp at h2 ⊢; omega)⟩
/-- a piece, or by shorter pieces -/
theorem short {ps : List W} (hne : ∀ p, p ∈ ps → p ≠ []) {w : W} (g : Idle ps w) : w = [] ∨ w ∈ ps ∨ Idle (ps.filter fun p => decide (p.length < w.length)) w := by
  cases g with
  | nil => exact .inl rfl
  | @put u w p hp hg =>
    right
    by_cases e : u ++ w = []
    · left
      have e1 : u = [] := (List.append_eq_nil_iff.mp e).1
      have e2 : w = [] := (List.append_eq_nil_iff.mp e).2
      subst e1 e2
      simpa using hp
    · right
      have hl : 0 < u.length + w.length := by
        rw [← List.length_append]
        exact List.length_pos_iff.mpr e
      have hpl := List.length_pos_iff.mpr (hne p hp)
      refine .put (List.mem_filter.mpr ⟨hp, decide_eq_true (by simp; omega)⟩) (mono (fun q hq => ?_) (long hg))
      obtain ⟨h1, h2⟩ := List.mem_filter.mp hq
      have h2 := of_decide_eq_true h2
      exact List.mem_filter.mpr ⟨h1, decide_eq_true (by simp at h2 ⊢; omega)⟩
/-- needless: idle by the others -/
def Need (ps : List W) (w : W) : Prop := Idle (ps.filter fun p => decide (p ≠ w)) w
/-- a needless piece is idle by shorter ones -/
theorem need_short {ps : List W} (hne : ∀ p, p ∈ ps → p ≠ []) {w : W} (hw : w ≠ []) (h : Need ps w) : Idle (ps.filter fun p => decide (p.length < w.length)) w := by
  rcases short (fun p hp => hne p (List.mem_filter.mp hp).1) h with e | e | e
  · exact absurd e hw
  · exact absurd rfl (of_decide_eq_true (List.mem_filter.mp e).2)
  · refine mono (fun q hq => ?_) e
    obtain ⟨h1, h2⟩ := List.mem_filter.mp hq
    exact List.mem_filter.mpr ⟨(List.mem_filter.mp h1).1, h2⟩
theorem need_of_short {ps : List W} {w : W} (h : Idle (ps.filter fun p => decide (p.length < w.length)) w) : Need ps w :=
  mono (fun q hq => by
    obtain ⟨h1, h2⟩ := List.mem_filter.mp hq
    have h2 := of_decide_eq_true h2
    exact List.mem_filter.mpr ⟨h1, decide_eq_true fun e => by rw [e] at h2; omega⟩) h
/-- B keeps just the pieces that are not needless -/
def IsBase (ps bs : List W) : Prop := ∀ w, w ∈ bs ↔ w ∈ ps ∧ ¬ Need ps w
/-- all pieces are idle by the base -/
theorem base_all {ps bs : List W} (hne : ∀ p, p ∈ ps → p ≠ []) (hb : IsBase ps bs) : ∀ (n : Nat) (w : W), w.length ≤ n → w ∈ ps → Idle bs w
  | 0, w, hn, hw => absurd (List.eq_nil_of_length_eq_zero (by omega)) (hne w hw)
  | n + 1, w, hn, hw => by
    by_cases h : Need ps w
    · refine trans (fun q hq => ?_) (need_short hne (hne w hw) h)
      obtain ⟨h1, h2⟩ := List.mem_filter.mp hq
      have h2 := of_decide_eq_true h2
      exact base_all hne hb n q (by omega) h1
    · exact self ((hb w).mpr ⟨hw, h⟩)
theorem base_idle {ps bs : List W} (hne : ∀ p, p ∈ ps → p ≠ []) (hb : IsBase ps bs) {w : W} : Idle bs w ↔ Idle ps w :=
  ⟨mono fun q hq => ((hb q).mp hq).1, trans fun q hq => base_all hne hb _ q (Nat.le_refl _) hq⟩
/-- in the base nothing is needless -/
theorem base_need {ps bs : List W} (hb : IsBase ps bs) {w : W} (hw : w ∈ bs) : ¬ Need bs w := fun h =>
  ((hb w).mp hw).2 (mono (fun q hq => by
    obtain ⟨h1, h2⟩ := List.mem_filter.mp hq
    exact List.mem_filter.mpr ⟨((hb q).mp h1).1, h2⟩) h)
/-- of two books with the same idle logs the one's needed pieces are the other's -/
theorem in_other {ps qs : List W} (hq : ∀ p, p ∈ qs → p ≠ []) (h1 : ∀ p, p ∈ ps → Idle qs p) (h2 : ∀ q, q ∈ qs → Idle ps q) {w : W} (hw0 : w ≠ []) (hw : w ∈ ps) (hn : ¬ Need ps w) : w ∈ qs ∧ ¬ Need qs w := by
  have key : ¬ Idle (qs.filter fun p => decide (p.length < w.length)) w := fun h => hn (need_of_short (trans (fun q hq' => by
    obtain ⟨a, b⟩ := List.mem_filter.mp hq'
    have b := of_decide_eq_true b
    refine mono (fun r hr => ?_) (long (h2 q a))
    obtain ⟨c, d⟩ := List.mem_filter.mp hr
    have d := of_decide_eq_true d
    exact List.mem_filter.mpr ⟨c, decide_eq_true (by omega)⟩) h))
  rcases short hq (h1 w hw) with e | e | e
  · exact absurd e hw0
  · exact ⟨e, fun hN => key (need_short hq hw0 hN)⟩
  · exact absurd e key
theorem same_base {ps qs bs cs : List W} (hp : ∀ p, p ∈ ps → p ≠ []) (hq : ∀ p, p ∈ qs → p ≠ []) (hb : IsBase ps bs) (hc : IsBase qs cs) : ((∀ p, p ∈ ps → Idle qs p) ∧ ∀ q, q ∈ qs → Idle ps q) ↔ ∀ w, w ∈ bs ↔ w ∈ cs := by
  constructor
  · rintro ⟨h1, h2⟩ w
    rw [hb w, hc w]
    exact ⟨fun ⟨a, b⟩ => in_other hq h1 h2 (hp w a) a b, fun ⟨a, b⟩ => in_other hp h2 h1 (hq w a) a b⟩
  · intro h
    exact ⟨fun p hpp => mono (fun q hq' => ((hc q).mp ((h q).mp hq')).1) (base_all hp hb _ p (Nat.le_refl _) hpp), fun q hqq => mono (fun p hp' => ((hb p).mp ((h p).mpr hp')).1) (base_all hq hc _ q (Nat.le_refl _) hqq)⟩
/-- the first log that is idle by just one of two books is a piece: shorter ones being idle by both or none -/
theorem first_piece {ps qs : List W} (hp : ∀ p, p ∈ ps → p ≠ []) {w : W} (h : Idle ps w) (hn : ¬ Idle qs w) (hs : ∀ v : W, v.length < w.length → Idle ps v → Idle qs v) : w ∈ ps := by
  rcases short hp h with e | e | e
  · subst e
    exact absurd .nil hn
  · exact e
  · refine absurd (trans (fun p hp' => ?_) e) hn
    obtain ⟨a, b⟩ := List.mem_filter.mp hp'
    exact hs p (of_decide_eq_true b) (self a)
end BAS

/-! sorted of pairs (whole number, text) -/
namespace RSK
open PySem PySem.Spec PySem.Calls PyProof.Rows L2
open PySem.W (dataLe dataLt dataLt_pair dataLt_int dataLt_str not_lt_int not_lt_str alike alikeAll EachIs AllAlike Sortable sorted_data)
abbrev NZ := Nat × Str
def encZ (b : NZ) : PyData := .tuple [.int (b.1 : Int), .str b.2]
def leZ (p q : NZ) : Bool := decide (p.1 < q.1 ∨ (p.1 = q.1 ∧ p.2.cps.toList ≤ q.2.cps.toList))
theorem str_eq {a b : Str} (h : a.cps.toList = b.cps.toList) : a = b := by
  cases a
  cases b
  exact congrArg Str.mk (Array.ext' h)
theorem dataLe_z : dataLe false encZ = leZ := by
  funext p q
  show (!dataLt (.tuple [.int (q.1 : Int), .str q.2]) (.tuple [.int (p.1 : Int), .str p.2])) = _
  rw [dataLt_pair (by simp [alike]) (by simp [alike]), dataLt_int, dataLt_str]
  unfold leZ
  by_cases h1 : q.1 = p.1
  · rw [if_pos (by simp [PyData.eqv, h1])]
    by_cases h2 : q.2 = p.2
    · rw [if_pos (by simp [PyData.eqv, h2])]
      rw [Bool.not_false, eq_comm, decide_eq_true_iff]
      exact .inr ⟨h1.symm, by rw [h2]; exact List.le_refl _⟩
    · rw [if_neg (by simpa [PyData.eqv] using h2), not_lt_str, Bool.eq_iff_iff, decide_eq_true_iff, decide_eq_true_iff]
      exact ⟨fun h => .inr ⟨h1.symm, h⟩, fun h => h.elim (fun h => by omega) fun h => h.2⟩
  · rw [if_neg (by simp only [PyData.eqv, beq_iff_eq]; omega), not_lt_int, Bool.eq_iff_iff, decide_eq_true_iff, decide_eq_true_iff]
    exact ⟨fun h => .inl (by omega), fun h => h.elim (fun h => by omega) fun h => absurd h.1.symm h1⟩
theorem leZ_trans (a b c : NZ) (h : leZ a b = true) (g : leZ b c = true) : leZ a c = true := by
  unfold leZ at *
  rw [decide_eq_true_iff] at *
  rcases h with h | ⟨h1, h2⟩ <;> rcases g with g | ⟨g1, g2⟩
  · exact .inl (by omega)
  · exact .inl (by omega)
  · exact .inl (by omega)
  · exact .inr ⟨by omega, List.le_trans h2 g2⟩
theorem leZ_total (a b : NZ) : (leZ a b || leZ b a) = true := by
  unfold leZ
  rw [Bool.or_eq_true, decide_eq_true_iff, decide_eq_true_iff]
  rcases Nat.lt_trichotomy a.1 b.1 with h | h | h
  · exact .inl (.inl h)
  · rcases List.le_total a.2.cps.toList b.2.cps.toList with g | g
    · exact .inl (.inr ⟨h, g⟩)
    · exact .inr (.inr ⟨h.symm, g⟩)
  · exact .inr (.inl h)
/-- pairs in the heap -/
inductive PZ (H : Hp) : List V → List NZ → Prop where
  | nil : PZ H [] []
  | cons {t : Addr} {n : Nat} {z : Str} {vs : List V} {L : List NZ} : H t = some (.tup [.int (n : Int), .str z]) → PZ H vs L → PZ H (.ref t :: vs) ((n, z) :: L)
theorem PZ.same {H H' : Hp} {vs : List V} {L : List NZ} (s : Same H H') (h : PZ H vs L) : PZ H' vs L := by
  induction h with
  | nil => exact .nil
  | cons a _ ih => exact .cons (s _ _ a) ih
theorem PZ.kb {H H' : Hp} {D : Addr} {l : List V} {vs : List V} {L : List NZ} (k : RD.KB D H H') (hD : H D = some (.lst l)) (h : PZ H vs L) : PZ H' vs L := by
  induction h with
  | nil => exact .nil
  | cons e _ ih => exact .cons (k _ _ (fun z => by rw [z, hD] at e; cases e) e) ih
theorem PZ.app {H : Hp} {vs ws : List V} {L M : List NZ} (h : PZ H vs L) (g : PZ H ws M) : PZ H (vs ++ ws) (L ++ M) := by
  induction h with
  | nil => exact g
  | cons a _ ih => exact .cons a ih
theorem PZ.len {H : Hp} {vs : List V} {L : List NZ} (h : PZ H vs L) : vs.length = L.length := by
  induction h with
  | nil => rfl
  | cons _ _ ih => rw [List.length_cons, List.length_cons, ih]
theorem PZ.at_ {H : Hp} {vs : List V} {L : List NZ} (h : PZ H vs L) : ∀ (i : Nat) (v : V), vs[i]? = some v → ∃ t n z, v = .ref t ∧ L[i]? = some (n, z) ∧ H t = some (.tup [.int ((n : Nat) : Int), .str z]) := by
  induction h with
  | nil => exact fun i v e => by simp at e
  | @cons t n z vs L a _ ih =>
    intro i v e
    cases i with
    | zero => cases e; exact ⟨t, n, z, rfl, rfl, a⟩
    | succ i => exact ih i v e
/-- what a value stands for -/
def RZ (H : Hp) (u : Value) (b : NZ) : Prop := ∃ t, u = .ref t ∧ H t = some (.tup [.int (b.1 : Int), .str b.2])
theorem each_of {H : Hp} : ∀ {vs : List V} {L : List NZ} {us : List Value}, PZ H vs L → Vals vs us → EachIs (RZ H) us L
  | _, _, _, .nil, r => by cases r; exact .nil
  | _, _, _, .cons a h, r => by
    cases r with
    | cons r t => exact .cons ⟨_, r, a⟩ (each_of h t)
def rSortZ (K : PySem.W.Frag) : List V → Hp → VK → Prop := fun vs H Q => ∃ (a : Addr) (xs : List V) (L : List NZ), vs = [.ref a] ∧ SqL K H a xs ∧ PZ H xs L ∧ ∀ ys p, PZ H ys (L.mergeSort leZ) → H p = none → Q (.ref p) (upd H p (.lst ys))
end RSK

/-! sorted(xs, key=lambda x: (len(x), x)), xs texts -/
namespace SKL
open PySem PySem.Spec PyProof.Rows L2 LamX NdefX
/-- the lambda's words -/
abbrev lbody (x : Str) (p1 p2 p3 p4 p5 : Pos) (k : Nat) : Expr := .Tuple [.Call (.Name "len" p1) [.Name x p2] [] p3, .Name x p4] k p5
section
variable {P : Program} {w : World} {K : PySem.W.Frag} {mg : Str → Option Value} {base : Heap} {A : Around} {outer : List Env} {s : Shared} {H : Hp}
/-- all is kept, the answer is a new pair (len(z), z) -/
def KeyNew (z : Str) (s₁ : Shared) (v : Value) (s₂ : Shared) : Prop := ∃ h' tk a t1 t2, s₂ = { s₁ with heap := h', toks := tk } ∧ (∀ b o, s₁.heap.get? b = some o → h'.get? b = some o) ∧ v = .ref a ∧ s₁.heap.get? a = none ∧ h'.get? a = some { cls := .type "tuple", data := .seq #[.int z.length t1, .str z t2] }
theorem key_reads {z : Str} {h : Heap} {a : Addr} {t1 t2 : Tok} (e : h.get? a = some { cls := .type "tuple", data := .seq #[.int z.length t1, .str z t2] }) : Reads h (.ref a) (.tuple [.int z.length, .str z]) [] :=
  Reads.tuple (as := []) e rfl rfl (.cons (as := []) (bs := []) (.int _ _) (.cons (as := []) (bs := []) (.str _ _) .nil))
theorem KeyNew.pure {z : Str} {s₁ s₂ : Shared} {v : Value} (h : KeyNew z s₁ v s₂) : PySem.W.KeyPure (.tuple [.int z.length, .str z]) s₁ v s₂ := by
  obtain ⟨h', tk, a, t1, t2, e1, k, rfl, _, e2⟩ := h
  exact ⟨h', tk, e1, k, key_reads e2⟩
/-- a call of the lambda: all is kept, the key is (len(x), x) -/
theorem key_new {x q : Str} {scope : Scope} {params : Arguments} {f c' : Addr} {pm ctv v : Value} {z : Str} {p1 p2 p3 p4 p5 : Pos} {k : Nat} (e0 : Env0 P w K mg base A outer s H) (hd : A.handled = none) (hdep : A.depth < recursionLimit) (lim : s.heap.NoLimit)
    (hf : s.heap.get? f = some (PySem.W.kla_obj "<lambda>" q params (lbody x p1 p2 p3 p4 p5 k) scope [] pm c' ctv)) (hc : s.heap.CodeRec (.ref c') q) (S : NScope [x] [x] [] scope) (hlen : scope.names.lookup ("len" : Str) = some .globalImplicit) (hmg : mg ("len" : Str) = none) (hx : (x == ("__debug__" : Str)) = false)
    (hb : bindArgs (PySem.W.kla_fn "<lambda>" q params (lbody x p1 p2 p3 p4 p5 k) scope [] pm (.ref c') ctv) ⟨[v], []⟩ = pure [(x, v)]) (hv : RelV (.str z) v) (hz : z.length ≤ sizeLine) :
    wpAny (model P w) A (call (.ref f) [v]) (KeyNew z s) (fun _ _ => False) s := by
  refine wpAny_call ?_
  refine PySem.W.kla_callFunE hdep hf rfl S.co S.gen rfl hc ?_
  rw [hb]
  refine wpAny_pure (wpAny_newFunctionEnv (fun y hy => S.nocell y hy) (fun y hy => ?_) (fun h₁ hns hsb => ⟨lim.fresh _ hsb, ?_⟩) S.kind)
  · rw [List.mem_singleton.mp hy]
    exact S.par x (by simp)
  · show codeAny _ _ (.expr (lbody x p1 p2 p3 p4 p5 k) (envF ⟨"<lambda>", q, params, [], scope, [], c'⟩ f s.heap.objs.size)) _ _
    have kp : ∀ b o, s.heap.get? b = some o → h₁.get? b = some o := fun b o e => hsb.extBut b o (Nat.ne_of_lt (Heap.lt_size e)) (Heap.get?_push_of_some _ e)
    have J : ∀ tk, Inv (ncx C8.CX0 P w K mg base [x] ⟨"<lambda>", q, params, [], scope, [], c'⟩ f A outer s H C8.E0) [] (startF [x] [.str z] []) H { s with heap := h₁, toks := tk } := fun tk =>
      inv_startN S hd e0 rfl (.cons hv .nil) ⟨rfl, fun y c e => by simp at e, fun y1 y2 c e => by simp at e, fun i y e => by simp at e⟩ hns kp
    refine PySem.W.kla_codeExpr ?_
    have loc : ∀ (tk : Nat) (p : Pos) (Q : Value → Shared → Prop) (E : Value → Shared → Prop), Q v { s with heap := h₁, toks := tk } → wpAny (model P w) (A.deeper (envF ⟨"<lambda>", q, params, [], scope, [], c'⟩ f s.heap.objs.size)) (eval (.Name x p) (envF ⟨"<lambda>", q, params, [], scope, [], c'⟩ f s.heap.objs.size)) Q E { s with heap := h₁, toks := tk } := fun tk p Q E hQ =>
      wpAny_Name (wpAny_loadName_local S.kind (S.par x (by simp)) hns (by simp [List.lookup]) hQ) hx
    refine wpAny_Tuple_spliced ?_
    refine PyProof.Rows.args_cons ?_ rfl
    refine wpAny_Call_Name_kw (ld_blt (J _) hlen hmg PySem.boot_len ?_)
    refine PyProof.Rows.callWith_builtin1 (PyProof.Rows.args_cons (loc _ _ _ _ (PyProof.Rows.args_nil ?_)) rfl) rfl rfl
    obtain ⟨t, rfl⟩ : ∃ t, v = .str z t := hv
    have hn := line63
    refine len_str (by omega) ?_
    refine PyProof.Rows.args_cons (loc _ _ _ _ (PyProof.Rows.args_nil ?_)) rfl
    refine ⟨by show 2 ≤ sizeLine; rw [sizeLine_eq]; omega, ?_⟩
    have hsz : s.heap.objs.size ≤ h₁.objs.size := by
      have q := hsb.1
      rw [Heap.size_push] at q
      omega
    exact ⟨_, _, _, _, _, rfl, fun b o e => Heap.get?_push_of_some _ (kp b o e), rfl, Heap.get?_none_of_le hsz, Heap.get?_push_size _ rfl⟩
end
/-! ### the rule -/
open PySem.W (dataLe alike alikeAll EachIs AllAlike Sortable)
/-- shortest first, then by letters -/
def leS (a b : Str) : Bool := RSK.leZ (a.length, a) (b.length, b)
def encS (z : Str) : PyData := .tuple [.int z.length, .str z]
theorem dataLe_s : dataLe false encS = leS := by
  funext a b
  exact congrFun (congrFun RSK.dataLe_z (a.length, a)) (b.length, b)
theorem sql_ext {K : PySem.W.Frag} {H H' : Hp} {a : Addr} {xs : List V} (e : ExtN H H') (h : SqL K H a xs) : SqL K H' a xs := by
  rcases h with (h | ⟨o, h⟩) | h
  · exact .inl (.inl (e _ _ h fun ps z => by cases z))
  · exact .inl (.inr ⟨o, e _ _ h fun ps z => by cases z⟩)
  · exact .inr h
/-- what is read: the sorted list is new; but for the tables all is kept -/
def tSortLam (K : PySem.W.Frag) (T : List (Addr × Str)) (ta : TE) : TE := fun σ H Q => ta σ H fun x H1 => ∃ (a : Addr) (zs : List Str), x = .ref a ∧ SqL K H1 a (zs.map V.str) ∧ (∀ z, z ∈ zs → z.length ≤ sizeLine) ∧ Tabs T H1 ∧
  ∀ H2 p, ExtN H1 H2 → Tabs T H2 → H2 p = none → Q (.ref p) (upd H2 p (.lst ((zs.mergeSort leS).map V.str)))
section
variable {X : Cx} {T : List (Addr × Str)} {ta : TE} {a : Expr} {x : Str} {c P : Addr} {params : Arguments} {scope : Scope} {p lpos kp pos p1 p2 p3 p4 p5 : Pos} {k : Nat}
end
/-! ### min by the lambda -/
theorem best_le (zs : Nat → Str) : ∀ m, argBest (fun i j => !leS (zs j) (zs i)) m ≤ m ∧ ∀ i, i ≤ m → leS (zs (argBest (fun i j => !leS (zs j) (zs i)) m)) (zs i) = true
  | 0 => ⟨Nat.le_refl _, fun i hi => by
    have : i = 0 := by omega
    subst this
    have := RSK.leZ_total ((zs 0).length, zs 0) ((zs 0).length, zs 0)
    rw [Bool.or_self] at this
    exact this⟩
  | m + 1 => by
    obtain ⟨h1, h2⟩ := best_le zs m
    show (if (!leS (zs (argBest (fun i j => !leS (zs j) (zs i)) m)) (zs (m + 1))) = true then m + 1 else argBest (fun i j => !leS (zs j) (zs i)) m) ≤ m + 1 ∧ ∀ i, i ≤ m + 1 → leS (zs (if (!leS (zs (argBest (fun i j => !leS (zs j) (zs i)) m)) (zs (m + 1))) = true then m + 1 else argBest (fun i j => !leS (zs j) (zs i)) m)) (zs i) = true
    have tot := RSK.leZ_total ((zs (argBest (fun i j => !leS (zs j) (zs i)) m)).length, zs (argBest (fun i j => !leS (zs j) (zs i)) m)) ((zs (m + 1)).length, zs (m + 1))
    rw [Bool.or_eq_true] at tot
    by_cases hb : leS (zs (argBest (fun i j => !leS (zs j) (zs i)) m)) (zs (m + 1)) = true
    · rw [hb, if_neg (by decide)]
      refine ⟨by omega, fun i hi => ?_⟩
      rcases Nat.lt_or_ge i (m + 1) with q | q
      · exact h2 i (by omega)
      · have : i = m + 1 := by omega
        rw [this]
        exact hb
    · have hb' : leS (zs (argBest (fun i j => !leS (zs j) (zs i)) m)) (zs (m + 1)) = false := by simpa using hb
      rw [hb', if_pos (show (!false) = true from rfl)]
      have hr : leS (zs (m + 1)) (zs (argBest (fun i j => !leS (zs j) (zs i)) m)) = true := tot.resolve_left fun q => hb q
      refine ⟨Nat.le_refl _, fun i hi => ?_⟩
      rcases Nat.lt_or_ge i (m + 1) with q | q
      · exact RSK.leZ_trans _ _ _ hr (h2 i (by omega))
      · have : i = m + 1 := by omega
        rw [this]
        have := RSK.leZ_total ((zs (m + 1)).length, zs (m + 1)) ((zs (m + 1)).length, zs (m + 1))
        rw [Bool.or_self] at this
        exact this
/-- what is read: a least of them; but for the tables all is kept -/
def tMinLam (K : PySem.W.Frag) (T : List (Addr × Str)) (ta : TE) : TE := fun σ H Q => ta σ H fun x H1 => ∃ (a : Addr) (zs : List Str), x = .ref a ∧ SqL K H1 a (zs.map V.str) ∧ 0 < zs.length ∧ (∀ z, z ∈ zs → z.length ≤ sizeLine) ∧ Tabs T H1 ∧
  ∀ H2 z, ExtN H1 H2 → Tabs T H2 → z ∈ zs → (∀ y, y ∈ zs → leS z y = true) → Q (.str z) H2
section
variable {X : Cx} {T : List (Addr × Str)} {ta : TE} {a : Expr} {x : Str} {c P : Addr} {params : Arguments} {scope : Scope} {p lpos kp pos p1 p2 p3 p4 p5 : Pos} {k : Nat}
end
end SKL

/-! min(xs, key=lambda x: (len(x), x), default=None); min of pairs of a number and a text -/
namespace MKD
open PySem PySem.Spec PyProof.Rows L2 LamX NdefX SKL
open PySem.W (dataLe alike alikeAll EachIs AllAlike Sortable)
/-- what is read: a least of them, None of none; but for the tables all is kept -/
def tMinLamD (K : PySem.W.Frag) (T : List (Addr × Str)) (ta : TE) : TE := fun σ H Q => ta σ H fun x H1 => ∃ (a : Addr) (zs : List Str), x = .ref a ∧ SqL K H1 a (zs.map V.str) ∧ (∀ z, z ∈ zs → z.length ≤ sizeLine) ∧ Tabs T H1 ∧
  (zs = [] → ∀ H2, ExtN H1 H2 → Tabs T H2 → Q .non H2) ∧ ∀ H2 z, ExtN H1 H2 → Tabs T H2 → z ∈ zs → (∀ y, y ∈ zs → leS z y = true) → Q (.str z) H2
section
variable {X : Cx} {T : List (Addr × Str)} {ta : TE} {a : Expr} {x : Str} {c P : Addr} {params : Arguments} {scope : Scope} {p lpos kp kp2 pos p1 p2 p3 p4 p5 p6 : Pos} {k k2 : Nat}
theorem pe_minLamD (hcalm : X.calm = true) (hdep : X.A.depth < recursionLimit) (hu64 : X.A.units + 64 < cLine) (hg : Gl X "min") (hm : X.mg "min" = none) (hbt : bootBuiltins "min" = some (.builtin "min")) (ha : PE X a ta)
    (TB : TabB X.base X.mg c P) (hcode : X.env.code = .ref c) (hmT : (P, X.env.qual ++ "<lambda>") ∈ T) (hu : ∀ p ∈ T, p.1 = P → p.2 = X.env.qual ++ "<lambda>") (hdef : defaultsOf params X.env = ([], []))
    (S : NScope [x] [x] [] scope) (hcl : cloFrom X.env.cells scope.names [] = []) (hlen : scope.names.lookup ("len" : Str) = some .globalImplicit) (hml : X.mg ("len" : Str) = none) (hx : (x == ("__debug__" : Str)) = false)
    (hbind : ∀ (q : Str) (pm cv ctv v : Value), bindArgs (PySem.W.kla_fn "<lambda>" q params (lbody x p1 p2 p3 p4 p5 k) scope [] pm cv ctv) ⟨[v], []⟩ = pure [(x, v)])
    (he : backTo pos (starEach [a] X.env) = (false, eval a X.env) :: backTo pos (starEach [] X.env) := by rfl) (hpl : (backTo pos (starEach [a] X.env)).any (·.1) = false := by rfl) (hst : starEach [a] X.env = (false, eval a X.env) :: starEach [] X.env := by rfl) :
    PE X (.Call (.Name "min" p) [a] [⟨some "key", .Lambda params (lbody x p1 p2 p3 p4 p5 k) scope lpos, kp⟩, ⟨some "default", .Constant .none k2 p6, kp2⟩] pos) (tMinLamD X.K T ta) := by
  refine ⟨fun pins s σ H Q I h => ?_⟩
  refine wpAny_Call_Name_kw (ld_blt I hg hm hbt ?_)
  refine PyProof.Rows.callWith_kw (PyProof.Rows.args_cons (thn (ha.run pins s σ H _ I h) fun v s1 ⟨xv, H1, I1, r1, q1⟩ => PyProof.Rows.args_nil ?_) hst) he hpl (by rfl) (by rfl)
  obtain ⟨l, zs, rfl, hs, hzs, hT, q0, q⟩ := q1
  obtain rfl : v = Value.ref l := r1
  refine PyProof.Rows.kws_cons (lam_make2 I1 TB hcode hmT hu hT hdef (fun y hy e => absurd (S.free y hy e) List.not_mem_nil) fun f c' pm ctv H2 s2 I2 eN T2 hf hfn hfr hco => PyProof.Rows.kws_cons (Constant_none (PyProof.Rows.kws_nil ?_)))
  rw [hcl] at hf
  show wpAny _ _ (call (.builtin "min") [.ref l] [(Str.ofString "key", .ref f), (Str.ofString "default", .none)]) _ _ s2
  obtain ⟨its, rv, hl, hz⟩ := I2.list (sql_ext eN hs)
  have hle : its.length = zs.length := by rw [← rv.length, List.length_map]
  have hlI : s2.heap.IsList l its.toArray := hl.isList
  have hll : l < s2.heap.objs.size := by
    obtain ⟨o, e, _⟩ := hlI
    exact Heap.lt_size e
  have hitem : ∀ (i : Nat) (v : Value), its.toArray[i]? = some v → ∃ z, zs[i]? = some z ∧ RelV (.str z) v := fun i v e => by
    have e' : its[i]? = some v := by simpa using e
    have hi := (List.getElem?_eq_some_iff.mp e').1
    obtain ⟨z, hz1⟩ : ∃ z, zs[i]? = some z := ⟨_, List.getElem?_eq_getElem (by omega)⟩
    obtain ⟨u, hu1, ru⟩ := rv.get (show (zs.map V.str)[i]? = some (.str z) by rw [List.getElem?_map, hz1]; rfl)
    rw [e'] at hu1
    cases hu1
    exact ⟨z, hz1, ru⟩
  refine PySem.call_min_walkKD (wpAny_pyIter_list hlI ?_)
  have W := (Walks.list (prog := X.prog) (w := X.w) (A := X.A.in1) (I.ok.hd hcalm) s2.heap.objs.size l (Nat.ne_of_lt hll) its.toArray).toS
  have push : ∀ b o, s2.heap.get? b = some o → (s2.heap.push { cls := .type "list_iterator", data := .fields #[.ref l, .int 0 0] }).get? b = some o := fun b o e => Heap.get?_push_of_some _ e
  have hsz1 : (s2.heap.push ({ cls := .type "list_iterator", data := .fields #[.ref l, .int 0 0] } : Obj)).objs.size = s2.heap.objs.size + 1 := Heap.size_push ..
  refine ⟨_, _, _, _, _, _, _, fun s' => (∀ b o, s2.heap.get? b = some o → s'.heap.get? b = some o) ∧ s'.gens = s2.gens ∧ s'.drawn = s2.drawn ∧ s'.os = s2.os, fun i kv s' => ∃ z ka t1 t2, zs[i]? = some z ∧ kv = .ref ka ∧ ka ≠ s2.heap.objs.size + 1 ∧ ka ≠ s2.heap.objs.size ∧ s'.heap.get? ka = some { cls := .type "tuple", data := .seq #[.int z.length t1, .str z t2] }, fun i j => !leS (zs.getD j ("" : Str)) (zs.getD i ("" : Str)), rfl, W, ⟨⟨_, Heap.get?_push_size _ rfl, rfl, rfl⟩, hlI.at fun o e => push _ _ e⟩, fun b hb => ?_, ?_, ⟨push, rfl, rfl, rfl⟩, fun hn0 s' hJ => ?_, fun hpos v s' hP hJ => ?_⟩
  · rw [hsz1]
    simp at hb
    rcases hb with e | e
    · rw [e]
      exact Nat.lt_succ_self _
    · rw [e]
      exact Nat.lt_succ_of_lt hll
  · rw [hsz1]
    refine ⟨fun s1 s1' hJ hM => ?_, fun i kv s1 s1' hV hM => ?_, fun i v sx o Q' E' hi hP hJ hSt hS hQ => ?_, fun i j ki kj sx Q' E' hJ hVi hVj hQ => ?_⟩
    · obtain ⟨k1, k2, k3, k4⟩ := hJ
      refine ⟨fun b o e => hM.heap b o (fun hb => ?_) (k1 b o e), hM.gens.trans k2, hM.drawn.trans k3, hM.os.trans k4⟩
      have hlt := Heap.lt_size e
      simp at hb
      rcases hb with e | e
      · rw [e] at hlt
        exact absurd hlt (Nat.not_lt_of_le (Nat.le_succ _))
      · rw [e] at hlt
        exact absurd hlt (Nat.lt_irrefl _)
    · obtain ⟨z, ka, t1, t2, h1, h2, h3, h4, h5⟩ := hV
      exact ⟨z, ka, t1, t2, h1, h2, h3, h4, hM.heap ka _ (by simp [h3, h4]) h5⟩
    · obtain ⟨z, hz1, hzv⟩ := hitem i v hP
      obtain ⟨hp, gs, dr, tk, os⟩ := sx
      obtain ⟨k1, k2, k3, k4⟩ := hJ
      have k1 : ∀ b o, s2.heap.get? b = some o → hp.get? b = some o := k1
      have k2 : gs = s2.gens := k2
      have k3 : dr = s2.drawn := k3
      have k4 : os = s2.os := k4
      subst k2 k3 k4
      have I3 := I2.kept (h' := hp) (t' := tk) k1
      refine wpAny_mono (key_new (A := X.A.in1) I3.env0.in1 (I.ok.hd hcalm) hdep I3.nolimit (k1 _ _ hf) (codeO_at I3.hok hco) S hlen hml hx (hbind _ _ _ _ _) hzv (hzs z (List.mem_of_getElem? hz1))) (fun kv s'' hk => ?_) fun _ _ h => h.elim
      obtain ⟨h', tk', ka, t1, t2, rfl, kk, rfl, hnone, hat⟩ := hk
      have neS : ka ≠ s2.heap.objs.size + 1 := fun e => by
        rw [e] at hnone
        exact absurd (hS.symm.trans hnone) (by simp)
      have neI : ka ≠ s2.heap.objs.size := fun e => by
        obtain ⟨oi, hoi, _⟩ := hSt.1
        rw [e] at hnone
        exact absurd (hoi.symm.trans hnone) (by simp)
      exact hQ (.ref ka) _ ⟨fun b o e => kk _ _ (k1 b o e), rfl, rfl, rfl⟩ ⟨hSt.1.at fun o e => kk _ _ e, hSt.2.at fun o e => kk _ _ e⟩ (kk _ _ hS) ⟨z, ka, t1, t2, hz1, rfl, neS, neI, hat⟩ fun j k' ⟨z', ka', u1, u2, h1, h2, h3, h4, h5⟩ => ⟨z', ka', u1, u2, h1, h2, h3, h4, kk _ _ h5⟩
    · obtain ⟨z, ka, t1, t2, h1, rfl, _, _, h5⟩ := hVi
      obtain ⟨z', kb, u1, u2, g1, rfl, _, _, g5⟩ := hVj
      have e1 : zs.getD i ("" : Str) = z := by rw [List.getD_eq_getElem?_getD, h1]; rfl
      have e2 : zs.getD j ("" : Str) = z' := by rw [List.getD_eq_getElem?_getD, g1]; rfl
      have hbt : (!leS (zs.getD j ("" : Str)) (zs.getD i ("" : Str))) = PySem.W.dataLt (encS z) (encS z') := by
        rw [e1, e2, ← dataLe_s]
        show (!(!PySem.W.dataLt (encS z) (encS z'))) = _
        rw [Bool.not_not]
      refine PySem.W.rcLt_alike (encS z) (encS z') _ sx (.ref ka) (.ref kb) [] [] (key_reads h5) (key_reads g5) (by simp [alike, alikeAll, encS]) (by simp [encS]) ?_ _ _ _ _ ?_
      · have hd : (encS z).depth = 1 := by simp [encS, PyData.depth, PyData.depthAll]
        have hd' : (encS z').depth = 1 := by simp [encS, PyData.depth, PyData.depthAll]
        rw [hd, hd']
        show X.A.units + 1 + min 1 1 < cLine
        omega
      · rw [← hbt]
        exact hQ
  · obtain ⟨hp, gs, dr, tk, os⟩ := s'
    obtain ⟨k1, k2, k3, k4⟩ := hJ
    have k1 : ∀ b o, s2.heap.get? b = some o → hp.get? b = some o := k1
    have k2 : gs = s2.gens := k2
    have k3 : dr = s2.drawn := k3
    have k4 : os = s2.os := k4
    subst k2 k3 k4
    have hz0 : zs = [] := List.eq_nil_of_length_eq_zero (by rw [← hle]; simpa using hn0)
    exact ⟨.non, H2, I2.kept (h' := hp) (t' := tk) k1, rfl, q0 hz0 H2 eN T2⟩
  · obtain ⟨z, hz1, hzv⟩ := hitem _ v hP
    obtain ⟨hp, gs, dr, tk, os⟩ := s'
    obtain ⟨k1, k2, k3, k4⟩ := hJ
    have k1 : ∀ b o, s2.heap.get? b = some o → hp.get? b = some o := k1
    have k2 : gs = s2.gens := k2
    have k3 : dr = s2.drawn := k3
    have k4 : os = s2.os := k4
    subst k2 k3 k4
    obtain ⟨b1, b2⟩ := best_le (fun i => zs.getD i ("" : Str)) (its.toArray.size - 1)
    refine ⟨.str z, H2, I2.kept (h' := hp) (t' := tk) k1, hzv, q H2 z eN T2 (List.mem_of_getElem? hz1) fun y hy => ?_⟩
    obtain ⟨i, hi⟩ := List.mem_iff_getElem?.mp hy
    have hlt := (List.getElem?_eq_some_iff.mp hi).1
    have hsz : its.toArray.size = zs.length := by rw [List.size_toArray, hle]
    have := b2 i (by omega)
    have e1 : zs.getD i ("" : Str) = y := by rw [List.getD_eq_getElem?_getD, hi]; rfl
    have e2 : zs.getD (argBest (fun i j => !leS (zs.getD j ("" : Str)) (zs.getD i ("" : Str))) (its.toArray.size - 1)) ("" : Str) = z := by rw [List.getD_eq_getElem?_getD, hz1]; rfl
    rw [e1, e2] at this
    exact this
end
/-! ### the least of pairs -/
open RSK (NZ encZ leZ PZ RZ)
def minZ (p : NZ) (L : List NZ) : NZ := L.foldl (fun a y => if !leZ a y then y else a) p
theorem minD_z (p : NZ) : ∀ L : List NZ, PySem.W.minD (encZ p) (L.map encZ) = encZ (minZ p L) := by
  intro L
  induction L generalizing p with
  | nil => rfl
  | cons y L ih =>
    show PySem.W.minD (if PySem.W.dataLt (encZ y) (encZ p) then encZ y else encZ p) (L.map encZ) = encZ (minZ (if !leZ p y then y else p) L)
    have e : PySem.W.dataLt (encZ y) (encZ p) = !leZ p y := by
      rw [← RSK.dataLe_z]
      show _ = !(!PySem.W.dataLt (encZ y) (encZ p))
      rw [Bool.not_not]
    rw [e]
    cases (!leZ p y) with
    | true => exact ih y
    | false => exact ih p
theorem leZ_refl (p : NZ) : leZ p p = true := by
  have := RSK.leZ_total p p
  rwa [Bool.or_self] at this
theorem minZ_le (p : NZ) (L : List NZ) : minZ p L ∈ p :: L ∧ ∀ y, y ∈ p :: L → leZ (minZ p L) y = true := by
  induction L generalizing p with
  | nil => exact ⟨List.mem_cons_self, fun y hy => by rw [List.mem_singleton.mp hy]; exact leZ_refl p⟩
  | cons y L ih =>
    show (minZ (if !leZ p y then y else p) L) ∈ _ ∧ ∀ z, _ → leZ (minZ (if !leZ p y then y else p) L) z = true
    cases e : leZ p y with
    | true =>
      obtain ⟨h1, h2⟩ := ih p
      refine ⟨?_, fun z hz => ?_⟩
      · rcases List.mem_cons.mp h1 with h | h
        · show minZ p L ∈ _
          rw [h]
          exact List.mem_cons_self
        · exact List.mem_cons_of_mem _ (List.mem_cons_of_mem _ h)
      · show leZ (minZ p L) z = true
        rcases List.mem_cons.mp hz with h | h
        · exact h2 z (by rw [h]; exact List.mem_cons_self)
        · rcases List.mem_cons.mp h with h | h
          · rw [h]
            exact RSK.leZ_trans _ _ _ (h2 p List.mem_cons_self) e
          · exact h2 z (List.mem_cons_of_mem _ h)
    | false =>
      obtain ⟨h1, h2⟩ := ih y
      have e2 : leZ y p = true := by
        have := RSK.leZ_total p y
        rw [e, Bool.false_or] at this
        exact this
      refine ⟨List.mem_cons_of_mem _ h1, fun z hz => ?_⟩
      show leZ (minZ y L) z = true
      rcases List.mem_cons.mp hz with h | h
      · rw [h]
        exact RSK.leZ_trans _ _ _ (h2 y List.mem_cons_self) e2
      · exact h2 z h
theorem reads_all {h : Heap} : ∀ {us : List Value} {L : List NZ}, EachIs (fun v b => ∃ as, Reads h v (encZ b) as) us L → ∃ as, ReadsAll h us (L.map encZ) as
  | _, _, .nil => ⟨[], .nil⟩
  | _, _, .cons ⟨as, r⟩ t => by
    obtain ⟨bs, rs⟩ := reads_all t
    exact ⟨as ++ bs, .cons r rs⟩
theorem each_at {R : Value → NZ → Prop} : ∀ {us : List Value} {L : List NZ}, EachIs R us L → ∀ (i : Nat) (v : Value), us[i]? = some v → ∃ b, L[i]? = some b ∧ R v b
  | _, _, .nil, i, v, e => by simp at e
  | _, _, .cons a t, i, v, e => by
    cases i with
    | zero => cases e; exact ⟨_, rfl, a⟩
    | succ i => exact each_at t i v e
theorem alike_z (L : List NZ) : PySem.W.AlikeAll (L.map encZ) := by
  refine ⟨fun x hx y hy => ?_, fun x hx => ?_⟩
  · obtain ⟨a, _, rfl⟩ := List.mem_map.mp hx
    obtain ⟨b, _, rfl⟩ := List.mem_map.mp hy
    simp [alike, alikeAll, encZ]
  · obtain ⟨a, _, rfl⟩ := List.mem_map.mp hx
    exact fun z => by cases z
theorem depth_z : ∀ L : List NZ, PyData.depthAll (L.map encZ) ≤ 1
  | [] => by simp [PyData.depthAll]
  | p :: L => by
    have := depth_z L
    simp only [List.map_cons, PyData.depthAll]
    have e : (encZ p).depth = 1 := by simp [encZ, PyData.depth, PyData.depthAll]
    omega
def rMinZ (K : PySem.W.Frag) : List V → Hp → VK → Prop := fun vs H Q => ∃ (a : Addr) (xs : List V) (L : List NZ), vs = [.ref a] ∧ SqL K H a xs ∧ PZ H xs L ∧ L ≠ [] ∧ ∀ (t : Addr) (b : NZ), b ∈ L → (∀ y, y ∈ L → leZ b y = true) → H t = some (.tup [.int (b.1 : Int), .str b.2]) → Q (.ref t) H
theorem cr_minZ {X : Cx} (hc : X.calm = true) (hu : X.A.units + 64 < cLine) : CallR X (.builtin "min") (rMinZ X.K) := by
  intro pins s σ H vs us Q I r h
  obtain ⟨a, xs, L, rfl, hs, hx, hne, q⟩ := h
  obtain ⟨its, rv, hl, hz⟩ := I.list hs
  obtain ⟨u, rfl, ru⟩ := vals1 r
  obtain rfl : u = Value.ref a := ru
  have e := RSK.each_of hx rv
  have er : EachIs (fun v b => ∃ as, Reads s.heap v (encZ b) as) its L := e.mono fun v b ⟨t, ev, ht⟩ => by
    subst ev
    exact Dp.reads I (encZ b) (.ref t) (.ref t) (.tup (.inl (.inl ht)) (.cons (.int _) (.cons (.str _) .nil))) rfl
  obtain ⟨as, hr⟩ := reads_all er
  cases L with
  | nil => exact absurd rfl hne
  | cons p L =>
    have hd := depth_z (p :: L)
    refine PySem.W.min_list_data (x := encZ p) (xs := L.map encZ) (I.ok.hd hc) hl.isList hr (alike_z (p :: L)) (by show X.A.units + 1 + PyData.depthAll ((p :: L).map encZ) < cLine; omega) (fun i v h' tk bs hi hrd hk => ?_)
    rw [minD_z] at hrd
    have hi : its[i]? = some v := by simpa using hi
    obtain ⟨b, hb, t, rfl, ht⟩ := each_at e i v hi
    obtain ⟨b', hb', as', hr'⟩ := each_at er i _ hi
    rw [hb] at hb'
    cases hb'
    have I2 := I.kept (h' := h') (t' := tk) hk
    obtain ⟨as2, hr2⟩ := Dp.reads I2 (encZ b) (.ref t) (.ref t) (.tup (.inl (.inl ht)) (.cons (.int _) (.cons (.str _) .nil))) rfl
    have eb := (hrd.unique _ _ hr2).1
    obtain ⟨h1, h2⟩ := minZ_le p L
    have eb2 : minZ p L = b := by
      unfold encZ at eb
      injection eb with eb
      injection eb with e1 e2
      injection e2 with e2 _
      injection e1 with e1
      injection e2 with e2
      exact Prod.ext (by omega) e2
    rw [eb2] at h1 h2
    exact ⟨.ref t, H, I2, rfl, q t b h1 h2 ht⟩
theorem minZV {K : PySem.W.Frag} {H : Hp} {Q : VK} {a : Addr} {xs : List V} {L : List NZ} (hs : SqL K H a xs) (hx : PZ H xs L) (hn : L ≠ []) (q : ∀ (t : Addr) (b : NZ), b ∈ L → (∀ y, y ∈ L → leZ b y = true) → H t = some (.tup [.int (b.1 : Int), .str b.2]) → Q (.ref t) H) : rMinZ K [.ref a] H Q := ⟨a, xs, L, rfl, hs, hx, hn, q⟩
end MKD

/-! the table of best choices, as plain lists; what it holds -/
namespace BS
abbrev W := List Nat
structure Ch where
  cost : Int
  num : Option Nat
  pl : List Nat
abbrev Dc := List (Nat × Ch)
def get (d : Dc) (k : Nat) : Option Ch := (d.find? fun kv => decide (kv.1 = k)).map (·.2)
def put (d : Dc) (k : Nat) (c : Ch) : Dc := if (d.any fun kv => decide (kv.1 = k)) = true then d.map (fun kv => if kv.1 = k then (kv.1, c) else kv) else d ++ [(k, c)]
def better (least : Bool) (one : Ch) : Option Ch → Bool
  | none => true
  | some o => if least = true then decide (one.cost < o.cost) else decide (o.cost < one.cost)
def putB (least : Bool) (d : Dc) (k : Nat) (c : Ch) : Dc := if better least c (get d k) = true then put d k c else d
def keys (d : Dc) : List Nat := d.map (·.1)
theorem get_cons (p : Nat × Ch) (d : Dc) (k : Nat) : get (p :: d) k = if p.1 = k then some p.2 else get d k := by
  unfold get
  rw [List.find?_cons]
  by_cases h : p.1 = k
  · simp [h]
  · simp [h]
theorem get_none {d : Dc} {k : Nat} : get d k = none ↔ k ∉ keys d := by
  induction d with
  | nil => simp [get, keys]
  | cons p d ih =>
    rw [get_cons]
    by_cases h : p.1 = k
    · simp [h, keys]
    · rw [if_neg h, ih]
      simp [keys, Ne.symm h]
theorem get_mem {d : Dc} {k : Nat} {c : Ch} (h : get d k = some c) : (k, c) ∈ d := by
  induction d with
  | nil => cases h
  | cons p d ih =>
    rw [get_cons] at h
    by_cases e : p.1 = k
    · rw [if_pos e] at h
      have : p.2 = c := Option.some.inj h
      rw [← e, ← this]
      exact List.mem_cons_self
    · rw [if_neg e] at h
      exact List.mem_cons_of_mem _ (ih h)
theorem any_keys (d : Dc) (k : Nat) : (d.any fun kv => decide (kv.1 = k)) = true ↔ k ∈ keys d := by
  rw [List.any_eq_true]
  unfold keys
  rw [List.mem_map]
  exact ⟨fun ⟨x, h, e⟩ => ⟨x, h, of_decide_eq_true e⟩, fun ⟨x, h, e⟩ => ⟨x, h, decide_eq_true e⟩⟩
theorem put_old {d : Dc} {k : Nat} {c : Ch} (h : k ∈ keys d) : put d k c = d.map (fun kv => if kv.1 = k then (kv.1, c) else kv) := if_pos ((any_keys d k).mpr h)
theorem put_new {d : Dc} {k : Nat} {c : Ch} (h : k ∉ keys d) : put d k c = d ++ [(k, c)] := if_neg fun e => h ((any_keys d k).mp e)
theorem keys_put (d : Dc) (k : Nat) (c : Ch) : keys (put d k c) = if k ∈ keys d then keys d else keys d ++ [k] := by
  by_cases h : k ∈ keys d
  · rw [put_old h, if_pos h]
    unfold keys
    rw [List.map_map]
    refine List.map_congr_left fun p _ => ?_
    show (if p.1 = k then (p.1, c) else p).1 = p.1
    split <;> rfl
  · rw [put_new h, if_neg h]
    unfold keys
    rw [List.map_append]
    rfl
theorem get_app (d : Dc) (k j : Nat) (c : Ch) : get (d ++ [(k, c)]) j = if (get d j).isSome then get d j else if k = j then some c else none := by
  induction d with
  | nil => rw [List.nil_append, get_cons]; rfl
  | cons p d ih =>
    rw [List.cons_append, get_cons, get_cons, ih]
    by_cases h : p.1 = j
    · simp [h]
    · simp [h]
theorem get_map (d : Dc) (k j : Nat) (c : Ch) : get (d.map (fun kv => if kv.1 = k then (kv.1, c) else kv)) j = if k = j then (if j ∈ keys d then some c else none) else get d j := by
  induction d with
  | nil => simp [get, keys]
  | cons p d ih =>
    rw [List.map_cons, get_cons, get_cons, ih]
    by_cases h : p.1 = k
    · rw [if_pos h]
      by_cases e : k = j
      · simp [h, e, keys]
      · simp [h, e]
    · rw [if_neg h]
      by_cases e : k = j
      · subst e
        have e1 : (k ∈ keys (p :: d)) ↔ k ∈ keys d := by
          unfold keys
          rw [List.map_cons, List.mem_cons]
          exact ⟨fun z => z.resolve_left (Ne.symm h), .inr⟩
        simp [h, e1]
      · simp [e]
theorem get_put (d : Dc) (k j : Nat) (c : Ch) : get (put d k c) j = if k = j then some c else get d j := by
  by_cases h : k ∈ keys d
  · rw [put_old h, get_map]
    by_cases e : k = j
    · subst e
      simp [h]
    · simp [e]
  · rw [put_new h, get_app]
    by_cases e : k = j
    · subst e
      rw [get_none.mpr h]
      simp
    · simp only [e, if_false]
      cases get d j <;> rfl
theorem keys_putB (least : Bool) (d : Dc) (k : Nat) (c : Ch) : keys (putB least d k c) = if k ∈ keys d then keys d else keys d ++ [k] := by
  unfold putB
  split
  · exact keys_put d k c
  · rename_i h
    have : k ∈ keys d := Decidable.byContradiction fun n => h (by rw [get_none.mpr n]; rfl)
    rw [if_pos this]
theorem nodup_putB {least : Bool} {d : Dc} {k : Nat} {c : Ch} (h : (keys d).Nodup) : (keys (putB least d k c)).Nodup := by
  rw [keys_putB]
  split
  · exact h
  · rename_i n
    exact List.nodup_append.mpr ⟨h, by simp, fun a ha b hb e => n (by rw [List.mem_singleton.mp hb] at e; rw [← e]; exact ha)⟩
/-- every kept choice is as P says -/
def All (P : Nat → Ch → Prop) (d : Dc) : Prop := ∀ k c, (k, c) ∈ d → P k c
theorem All.putB {P : Nat → Ch → Prop} {least : Bool} {d : Dc} {k : Nat} {c : Ch} (h : All P d) (hc : P k c) : All P (putB least d k c) := by
  unfold BS.putB
  split
  · by_cases hk : k ∈ keys d
    · rw [put_old hk]
      intro j x hx
      obtain ⟨⟨a, b⟩, hm, e⟩ := List.mem_map.mp hx
      by_cases ea : a = k
      · rw [if_pos ea] at e
        cases e
        rw [ea]
        exact hc
      · rw [if_neg ea] at e
        cases e
        exact h _ _ hm
    · rw [put_new hk]
      intro j x hx
      rcases List.mem_append.mp hx with hx | hx
      · exact h _ _ hx
      · cases List.mem_singleton.mp hx
        exact hc
  · exact h
/-! ### the table -/
def inner (least : Bool) (L : W) (a : Nat) (n : Nat) (ch : Ch) (later row : Dc) : Dc :=
  row.foldl (fun later kv => if L[kv.1]? = some a then putB least later (kv.1 + 1) ⟨ch.cost + kv.2.cost, some n, ch.pl ++ [kv.1]⟩ else later) later
def stepP (least : Bool) (L : W) (S : Nat → Dc) (n : Nat) (a : Nat) (spots : Dc) : Dc :=
  spots.foldl (fun later kv => inner least L a n kv.2 later (S kv.1)) []
def first (L : W) (b n : Nat) (p : W) (cost : Int) : Dc := if L[b]? = p[0]? then [(b + 1, ⟨cost, some n, [b]⟩)] else []
def pieceEnds (least : Bool) (L : W) (S : Nat → Dc) (b n : Nat) (p : W) (cost : Int) : Dc :=
  (p.drop 1).foldl (fun spots a => stepP least L S n a spots) (first L b n p cost)
def addRow (least : Bool) (n : Nat) (ch : Ch) (found row : Dc) : Dc :=
  row.foldl (fun found kv => putB least found kv.1 ⟨ch.cost + kv.2.cost, some n, ch.pl⟩) found
def addPiece (least : Bool) (S : Nat → Dc) (n : Nat) (found spots : Dc) : Dc :=
  spots.foldl (fun found kv => addRow least n kv.2 found (S kv.1)) found
def zero : Ch := ⟨0, none, []⟩
def bestRow (least : Bool) (ps : List W) (pr : Nat → Int) (L : W) (S : Nat → Dc) (b : Nat) : Dc :=
  ps.zipIdx.foldl (fun found pn => addPiece least S pn.2 found (pieceEnds least L S b pn.2 pn.1 (pr pn.2))) [(b, zero)]
def Sf (least : Bool) (ps : List W) (pr : Nat → Int) (L : W) : Nat → Nat → Dc
  | 0, b => [(b, zero)]
  | i + 1, b => if b + (i + 1) = L.length then bestRow least ps pr L (Sf least ps pr L i) b else Sf least ps pr L i b
/-! ### what it holds: costs by a relation -/
section
variable {ps : List W} {pr : Nat → Int} {L : W} {least : Bool}
/-- not worse -/
def le (least : Bool) (a b : Int) : Prop := if least = true then a ≤ b else b ≤ a
theorem le_refl (a : Int) : le least a a := by unfold le; split <;> exact Int.le_refl _
theorem le_trans {a b c : Int} (h : le least a b) (g : le least b c) : le least a c := by
  unfold le at *
  cases least with
  | true => exact Int.le_trans h g
  | false => exact Int.le_trans g h
theorem better_not {x y : Ch} (h : ¬ better least x (some y) = true) : le least y.cost x.cost := by
  cases least with
  | true => exact Int.not_lt.mp fun z => h (decide_eq_true z)
  | false => exact Int.not_lt.mp fun z => h (decide_eq_true z)
theorem better_le {x y : Ch} (h : better least x (some y) = true) : le least x.cost y.cost := by
  cases least with
  | true => exact Int.le_of_lt (of_decide_eq_true h)
  | false => exact Int.le_of_lt (of_decide_eq_true h)
/-- the best of all candidates is kept for each end -/
structure Opt (least : Bool) (d : Dc) (C : Nat → Int → Prop) : Prop where
  nd : (keys d).Nodup
  on : ∀ k c, (k, c) ∈ d → C k c.cost
  all : ∀ k c, C k c → ∃ x, get d k = some x ∧ le least x.cost c
theorem Opt.nil : Opt least [] fun _ _ => False := ⟨List.nodup_nil, fun _ _ h => (List.not_mem_nil h).elim, fun _ _ h => h.elim⟩
theorem Opt.one (k : Nat) (c : Ch) : Opt least [(k, c)] fun j x => j = k ∧ x = c.cost := ⟨by simp [keys], fun j x h => by cases List.mem_singleton.mp h; exact ⟨rfl, rfl⟩, fun j x h => ⟨c, by rw [get_cons, h.1, if_pos rfl], by rw [h.2]; exact le_refl _⟩⟩
theorem Opt.iff {d : Dc} {C C' : Nat → Int → Prop} (h : Opt least d C) (e : ∀ k c, C k c ↔ C' k c) : Opt least d C' := ⟨h.nd, fun k c m => (e _ _).mp (h.on k c m), fun k c m => h.all k c ((e _ _).mpr m)⟩
theorem Opt.putB {d : Dc} {C : Nat → Int → Prop} (h : Opt least d C) (k : Nat) (c : Ch) : Opt least (putB least d k c) fun j x => C j x ∨ (j = k ∧ x = c.cost) := by
  refine ⟨nodup_putB h.nd, All.putB (fun j x m => .inl (h.on j x m)) (.inr ⟨rfl, rfl⟩), fun j x m => ?_⟩
  unfold BS.putB
  split
  · rename_i hb
    rw [get_put]
    by_cases e : k = j
    · subst e
      rw [if_pos rfl]
      refine ⟨c, rfl, ?_⟩
      rcases m with m | ⟨_, rfl⟩
      · obtain ⟨y, hy, hl⟩ := h.all k x m
        rw [hy] at hb
        exact le_trans (better_le hb) hl
      · exact le_refl _
    · rw [if_neg e]
      rcases m with m | ⟨e', _⟩
      · exact h.all j x m
      · exact absurd e'.symm e
  · rename_i hb
    rcases m with m | ⟨rfl, rfl⟩
    · exact h.all j x m
    · cases hg : get d j with
      | none => rw [hg] at hb; exact absurd rfl hb
      | some y =>
        rw [hg] at hb
        exact ⟨y, rfl, better_not hb⟩
/-- the costs of what stands from b on: the first signs p, idle stretches between them -/
inductive CS (C : Nat → Nat → Int → Prop) (L : W) (b : Nat) (c0 : Int) : W → Nat → Int → Prop where
  | one {a : Nat} : L[b]? = some a → CS C L b c0 [a] (b + 1) c0
  | more {p : W} {a s h : Nat} {c1 c2 : Int} : CS C L b c0 p s c1 → C s h c2 → L[h]? = some a → CS C L b c0 (p ++ [a]) (h + 1) (c1 + c2)
theorem CS.ne {C : Nat → Nat → Int → Prop} {b : Nat} {c0 c : Int} {p : W} {s : Nat} (h : CS C L b c0 p s c) : p ≠ [] := by
  cases h <;> simp
theorem CS.lt {C : Nat → Nat → Int → Prop} (hC : ∀ s h c, C s h c → s ≤ h ∧ h ≤ L.length) {b : Nat} {c0 c : Int} {p : W} {s : Nat} (h : CS C L b c0 p s c) : b < s ∧ s ≤ L.length := by
  induction h with
  | one h => exact ⟨by omega, (List.getElem?_eq_some_iff.mp h).1⟩
  | more _ h2 h3 ih =>
    have := hC _ _ _ h2
    exact ⟨by omega, (List.getElem?_eq_some_iff.mp h3).1⟩
/-- the table from b on holds the best -/
def Holds (least : Bool) (S : Nat → Dc) (C : Nat → Nat → Int → Prop) (lo hi : Nat) : Prop := ∀ s, lo ≤ s → s ≤ hi → Opt least (S s) (C s)
/-- costs of idle stretches -/
structure Costs (ps : List W) (pr : Nat → Int) (L : W) (C : Nat → Nat → Int → Prop) : Prop where
  le : ∀ s h c, C s h c → s ≤ h ∧ h ≤ L.length
  iff : ∀ b e c, b ≤ L.length → (C b e c ↔ (e = b ∧ c = 0) ∨ ∃ n p, ps[n]? = some p ∧ ∃ s c1 c2, CS C L b (pr n) p s c1 ∧ C s e c2 ∧ c = c1 + c2)
end
/-! ### what a choice tells -/
section
variable {ps : List W} {pr : Nat → Int} {L : W} {least : Bool}
/-- the places of the first letters p, and the ends of what follows, by the table S -/
inductive Chn (S : Nat → Dc) (L : W) (b : Nat) (c0 : Int) : W → List Nat → Nat → Int → Prop where
  | one {a : Nat} : L[b]? = some a → Chn S L b c0 [a] [b] (b + 1) c0
  | more {p : W} {pl : List Nat} {a s h : Nat} {c : Int} {g : Ch} : Chn S L b c0 p pl s c → get (S s) h = some g → L[h]? = some a → Chn S L b c0 (p ++ [a]) (pl ++ [h]) (h + 1) (c + g.cost)
/-- a choice of the stretch from b to e -/
def Good (ps : List W) (pr : Nat → Int) (L : W) (S : Nat → Dc) (b : Nat) (e : Nat) (ch : Ch) : Prop :=
  (e = b ∧ ch = zero) ∨ ∃ n p s c g, ch.num = some n ∧ ps[n]? = some p ∧ Chn S L b (pr n) p ch.pl s c ∧ get (S s) e = some g ∧ ch.cost = c + g.cost
/-- the table's stretches have ends within the log -/
def Bd (S : Nat → Dc) (lo hi : Nat) : Prop := ∀ s, lo ≤ s → s ≤ hi → (keys (S s)).Nodup ∧ ∀ h g, (h, g) ∈ S s → s ≤ h ∧ h ≤ hi
theorem Chn.lt {S : Nat → Dc} {b s : Nat} {c0 c : Int} {p : W} {pl : List Nat} (h : Chn S L b c0 p pl s c) (hS : Bd S (b + 1) L.length) : b < s ∧ s ≤ L.length := by
  induction h with
  | one h => exact ⟨by omega, (List.getElem?_eq_some_iff.mp h).1⟩
  | more _ h2 h3 ih =>
    have := ((hS _ (by omega) ih.2).2 _ _ (get_mem h2)).1
    exact ⟨by omega, (List.getElem?_eq_some_iff.mp h3).1⟩
theorem Chn.eq {S S' : Nat → Dc} {b s : Nat} {c0 c : Int} {p : W} {pl : List Nat} (hS : Bd S (b + 1) L.length) (e : ∀ s, b < s → s ≤ L.length → S s = S' s) (h : Chn S L b c0 p pl s c) : Chn S' L b c0 p pl s c := by
  induction h with
  | one h => exact .one h
  | @more p pl a s h c g h1 h2 h3 ih =>
    have z := h1.lt hS
    exact .more ih (by rw [← e s z.1 z.2]; exact h2) h3
theorem Good.eq {S S' : Nat → Dc} {b en : Nat} {ch : Ch} (hS : Bd S (b + 1) L.length) (e : ∀ s, b < s → s ≤ L.length → S s = S' s) (h : Good ps pr L S b en ch) : Good ps pr L S' b en ch := by
  rcases h with h | ⟨n, p, s, c, g, h1, h2, h3, h4, h5⟩
  · exact .inl h
  · have z := h3.lt hS
    exact .inr ⟨n, p, s, c, g, h1, h2, h3.eq hS e, by rw [← e s z.1 z.2]; exact h4, h5⟩
/-- the whole table -/
def tab (least : Bool) (ps : List W) (pr : Nat → Int) (L : W) : Nat → Dc := Sf least ps pr L L.length
end
end BS

/-! the pieces of idle stretches, the striking that they make -/
namespace BP
open BS
abbrev Part := Nat × List Nat
/-- strikes, one behind another: from one text to another -/
inductive Sq (ps : List W) : W → List (Nat × Nat) → W → Prop where
  | nil (w : W) : Sq ps w [] w
  | cons {u q v x : W} {k : Nat} {r : List (Nat × Nat)} : ps[k]? = some q → Sq ps (u ++ v) r x → Sq ps (u ++ q ++ v) ((u.length, k) :: r) x
/-- a part's letters are those of its piece -/
def WF (ps : List W) (L : W) (q : Part) : Prop := ∃ p, ps[q.1]? = some p ∧ p ≠ [] ∧ q.2.Pairwise (· < ·) ∧ q.2.map (fun x => L[x]?) = p.map some
theorem WF.ne {ps : List W} {L : W} {q : Part} (h : WF ps L q) : q.2 ≠ [] := by
  obtain ⟨p, _, hp, _, e⟩ := h
  intro z
  rw [z] at e
  cases p with
  | nil => exact hp rfl
  | cons a p => cases e
theorem WF.lt {ps : List W} {L : W} {q : Part} (h : WF ps L q) : ∀ x, x ∈ q.2 → x < L.length := by
  obtain ⟨p, _, hp, _, e⟩ := h
  intro x hx
  have : L[x]? ∈ p.map some := by rw [← e]; exact List.mem_map.mpr ⟨x, hx, rfl⟩
  obtain ⟨a, _, ea⟩ := List.mem_map.mp this
  exact (List.getElem?_eq_some_iff.mp ea.symm).1
/-- x lies between the first and the last place, and is none -/
def Btw (q : List Nat) (x : Nat) : Prop := (∃ a, a ∈ q ∧ a < x) ∧ (∃ b, b ∈ q ∧ x < b) ∧ x ∉ q
def Run (ps : List W) (L : W) : List Nat → List Part → Prop
  | _, [] => True
  | l, q :: B => WF ps L q ∧ (∀ x, x ∈ q.2 → x ∈ l) ∧ (∀ x, x ∈ l → ¬ Btw q.2 x) ∧ Run ps L (l.filter fun x => decide (x ∉ q.2)) B
def strk : List Nat → List Part → List (Nat × Nat)
  | _, [] => []
  | l, q :: B => (l.idxOf (q.2.headD 0), q.1) :: strk (l.filter fun x => decide (x ∉ q.2)) B
def fin : List Nat → List Part → List Nat
  | l, [] => l
  | l, q :: B => fin (l.filter fun x => decide (x ∉ q.2)) B
theorem fin_eq : ∀ (P : List Part) (l : List Nat), fin l P = l.filter fun x => decide (x ∉ P.flatMap (·.2))
  | [], l => by
    show l = _
    rw [List.filter_eq_self.mpr fun x _ => by simp]
  | q :: P, l => by
    show fin (l.filter _) P = _
    rw [fin_eq P, List.filter_filter]
    refine List.filter_congr fun x _ => ?_
    rw [List.flatMap_cons, Bool.eq_iff_iff, Bool.and_eq_true, decide_eq_true_iff, decide_eq_true_iff, decide_eq_true_iff, List.mem_append, not_or]
    exact and_comm
/-! ### one strike -/
theorem pre_of : ∀ (pr : List Nat) (a : Nat) (r : List Nat), (a :: r).Pairwise (· < ·) → (a :: pr).Pairwise (· < ·) → (∀ x, x ∈ pr → x ∈ r) → (∀ x, x ∈ r → ¬ Btw (a :: pr) x) → ∃ l2, r = pr ++ l2 ∧ ∀ x, x ∈ l2 → x ∉ a :: pr
  | [], a, r, hl, _, _, _ => ⟨r, rfl, fun x hx z => by
    have := List.rel_of_pairwise_cons hl hx
    rw [List.mem_singleton] at z
    omega⟩
  | b :: pr, a, r, hl, hp, hs, hb => by
    cases r with
    | nil => exact absurd (hs b List.mem_cons_self) List.not_mem_nil
    | cons c r =>
      have hac : a < c := List.rel_of_pairwise_cons hl List.mem_cons_self
      have hab : a < b := List.rel_of_pairwise_cons hp List.mem_cons_self
      have hp2 := (List.pairwise_cons.mp hp).2
      have hl2 := (List.pairwise_cons.mp hl).2
      have ecb : c = b := by
        rcases List.mem_cons.mp (hs b List.mem_cons_self) with e | e
        · exact e.symm
        · have hcb : c < b := List.rel_of_pairwise_cons hl2 e
          refine absurd ⟨⟨a, List.mem_cons_self, hac⟩, ⟨b, by simp, hcb⟩, fun z => ?_⟩ (hb c List.mem_cons_self)
          rcases List.mem_cons.mp z with z | z
          · omega
          · rcases List.mem_cons.mp z with z | z
            · omega
            · have := List.rel_of_pairwise_cons hp2 z
              omega
      subst ecb
      obtain ⟨l2, e, hl3⟩ := pre_of pr c r hl2 hp2 (fun x hx => by
        rcases List.mem_cons.mp (hs x (List.mem_cons_of_mem _ hx)) with z | z
        · have := List.rel_of_pairwise_cons hp2 hx
          omega
        · exact z) fun x hx ⟨⟨u, hu, hux⟩, ⟨v, hv, hxv⟩, hn⟩ => by
          have hcx : c < x := List.rel_of_pairwise_cons hl2 hx
          refine hb x (List.mem_cons_of_mem _ hx) ⟨⟨u, List.mem_cons_of_mem _ hu, hux⟩, ⟨v, List.mem_cons_of_mem _ hv, hxv⟩, fun z => ?_⟩
          rcases List.mem_cons.mp z with z | z
          · omega
          · exact hn z
      refine ⟨l2, by rw [e]; rfl, fun x hx z => ?_⟩
      have hcx : c < x := List.rel_of_pairwise_cons hl2 (by rw [e]; exact List.mem_append_right _ hx)
      rcases List.mem_cons.mp z with z | z
      · omega
      · exact hl3 x hx z
theorem split_of {l q : List Nat} (hl : l.Pairwise (· < ·)) (hq : q.Pairwise (· < ·)) (hn : q ≠ []) (hs : ∀ x, x ∈ q → x ∈ l) (hb : ∀ x, x ∈ l → ¬ Btw q x) :
    ∃ l1 l2, l = l1 ++ q ++ l2 ∧ (l.filter fun x => decide (x ∉ q)) = l1 ++ l2 ∧ l.idxOf (q.headD 0) = l1.length := by
  obtain ⟨a, pr, rfl⟩ : ∃ a pr, q = a :: pr := by
    cases q with
    | nil => exact absurd rfl hn
    | cons a pr => exact ⟨a, pr, rfl⟩
  obtain ⟨l1, r, e⟩ := List.append_of_mem (hs a List.mem_cons_self)
  subst e
  obtain ⟨h1, h2, h3⟩ := List.pairwise_append.mp hl
  have hlt : ∀ x, x ∈ l1 → x < a := fun x hx => h3 x hx a List.mem_cons_self
  have hge : ∀ x, x ∈ pr → a < x := fun x hx => List.rel_of_pairwise_cons hq hx
  have hnl : ∀ x, x ∈ l1 → x ∉ a :: pr := fun x hx z => by
    have := hlt x hx
    rcases List.mem_cons.mp z with z | z
    · omega
    · have := hge x z
      omega
  obtain ⟨l2, e2, hl2⟩ := pre_of pr a r h2 hq (fun x hx => by
    rcases List.mem_append.mp (hs x (List.mem_cons_of_mem _ hx)) with z | z
    · exact absurd (List.mem_cons_of_mem _ hx) (hnl x z)
    · rcases List.mem_cons.mp z with z | z
      · have := hge x hx
        omega
      · exact z) fun x hx => hb x (List.mem_append_right _ (List.mem_cons_of_mem _ hx))
  subst e2
  refine ⟨l1, l2, by simp, ?_, ?_⟩
  · rw [List.filter_append, List.filter_eq_self.mpr fun x hx => decide_eq_true (hnl x hx)]
    have e : (a :: (pr ++ l2)) = (a :: pr) ++ l2 := rfl
    rw [e, List.filter_append, List.filter_eq_nil_iff.mpr fun x hx => fun z => (of_decide_eq_true z : x ∉ a :: pr) hx, List.filter_eq_self.mpr fun x hx => decide_eq_true (hl2 x hx)]
    rfl
  · show (l1 ++ a :: _).idxOf a = _
    rw [List.idxOf_append, if_neg fun z => Nat.lt_irrefl _ (hlt a z), List.idxOf_cons_self]
    omega
def txt (L : W) (l : List Nat) : W := l.map fun x => L.getD x 0
theorem txt_part {ps : List W} {L : W} {q : Part} {p : W} (e : q.2.map (fun x => L[x]?) = p.map some) : txt L q.2 = p := by
  have : (q.2.map fun x => L[x]?).map (fun o => o.getD 0) = (p.map some).map (fun o => o.getD 0) := by rw [e]
  rw [List.map_map, List.map_map] at this
  have e2 : ((fun o : Option Nat => o.getD 0) ∘ some) = id := rfl
  rw [e2, List.map_id] at this
  rw [← this]
  unfold txt
  refine List.map_congr_left fun x _ => ?_
  show L.getD x 0 = _
  rw [List.getD_eq_getElem?_getD]
  rfl
theorem Run.sq {ps : List W} {L : W} : ∀ (P : List Part) (l : List Nat), l.Pairwise (· < ·) → Run ps L l P → Sq ps (txt L l) (strk l P) (txt L (fin l P))
  | [], l, _, _ => .nil _
  | q :: P, l, hl, ⟨⟨p, h1, hp, hq, e⟩, hs, hb, hr⟩ => by
    have hn : q.2 ≠ [] := WF.ne (ps := ps) ⟨p, h1, hp, hq, e⟩
    obtain ⟨l1, l2, e1, e2, e3⟩ := split_of hl hq hn hs hb
    have hl' : (l.filter fun x => decide (x ∉ q.2)).Pairwise (· < ·) := List.Pairwise.filter _ hl
    have ih := Run.sq P _ hl' hr
    show Sq ps (txt L l) ((l.idxOf (q.2.headD 0), q.1) :: strk (l.filter fun x => decide (x ∉ q.2)) P) (txt L (fin (l.filter fun x => decide (x ∉ q.2)) P))
    rw [e3]
    have et : txt L l = txt L l1 ++ p ++ txt L l2 := by
      rw [e1, ← txt_part (ps := ps) e]
      unfold txt
      rw [List.map_append, List.map_append]
    have et2 : txt L (l.filter fun x => decide (x ∉ q.2)) = txt L l1 ++ txt L l2 := by
      rw [e2]
      unfold txt
      rw [List.map_append]
    rw [et2] at ih
    have el : l1.length = (txt L l1).length := (List.length_map ..).symm
    rw [et, el]
    exact .cons h1 ih
theorem txt_all (L : W) : txt L (List.range L.length) = L := by
  unfold txt
  refine List.ext_getElem? fun i => ?_
  rw [List.getElem?_map]
  by_cases h : i < L.length
  · rw [List.getElem?_range h, List.getElem?_eq_getElem h]
    simp [h]
  · rw [List.getElem?_eq_none (by simp; omega), List.getElem?_eq_none (by omega)]
    rfl
/-! ### the order of parts -/
structure PO (ps : List W) (L : W) (P : List Part) (xs : List Nat) : Prop where
  wf : ∀ q, q ∈ P → WF ps L q
  perm : (P.flatMap (·.2)).Perm xs
  btw : ∀ A q B, P = A ++ q :: B → ∀ x, Btw q.2 x → ∃ r, r ∈ A ∧ x ∈ r.2
theorem PO.nil {ps : List W} {L : W} : PO ps L [] [] := ⟨fun _ h => (List.not_mem_nil h).elim, List.Perm.refl _, fun A q B e => by simp at e⟩
theorem PO.app {ps : List W} {L : W} {P Q : List Part} {xs ys : List Nat} (h : PO ps L P xs) (g : PO ps L Q ys) : PO ps L (P ++ Q) (xs ++ ys) := by
  refine ⟨fun q hq => (List.mem_append.mp hq).elim (h.wf q) (g.wf q), by rw [List.flatMap_append]; exact h.perm.append g.perm, fun A q B e x hx => ?_⟩
  rcases List.append_eq_append_iff.mp e with ⟨C, e1, e2⟩ | ⟨C, e1, e2⟩
  · obtain ⟨r, h1, h2⟩ := g.btw C q B e2 x hx
    exact ⟨r, by rw [e1]; exact List.mem_append_right _ h1, h2⟩
  · cases C with
    | nil =>
      rw [List.append_nil] at e1
      subst e1
      obtain ⟨r, h1, h2⟩ := g.btw [] q B e2.symm x hx
      exact (List.not_mem_nil h1).elim
    | cons c C =>
      rw [List.cons_append] at e2
      obtain ⟨rfl, e3⟩ := List.cons.inj e2
      exact h.btw A q C e1 x hx
theorem PO.run {ps : List W} {L : W} {P : List Part} {xs : List Nat} (h : PO ps L P xs) (hx : xs.Nodup) (n : Nat) (hn : ∀ x, x ∈ xs → x < n) : Run ps L (List.range n) P := by
  have nd : (P.flatMap (·.2)).Nodup := h.perm.nodup_iff.mpr hx
  have gen : ∀ (B A : List Part), P = A ++ B → Run ps L ((List.range n).filter fun x => decide (x ∉ A.flatMap (·.2))) B := by
    intro B
    induction B with
    | nil => exact fun _ _ => trivial
    | cons q B ih =>
      intro A e
      have hq : q ∈ P := by rw [e]; simp
      refine ⟨h.wf q hq, fun x hxq => ?_, fun x hxl hb => ?_, ?_⟩
      · rw [List.mem_filter, List.mem_range]
        have hm : x ∈ P.flatMap (·.2) := List.mem_flatMap.mpr ⟨q, hq, hxq⟩
        refine ⟨hn x (h.perm.mem_iff.mp hm), decide_eq_true fun z => ?_⟩
        rw [e, List.flatMap_append] at nd
        exact (List.nodup_append.mp nd).2.2 x z x (List.mem_flatMap.mpr ⟨q, List.mem_cons_self, hxq⟩) rfl
      · obtain ⟨r, h1, h2⟩ := h.btw A q B e x hb
        rw [List.mem_filter] at hxl
        exact of_decide_eq_true hxl.2 (List.mem_flatMap.mpr ⟨r, h1, h2⟩)
      · rw [List.filter_filter]
        have := ih (A ++ [q]) (by rw [e]; simp)
        rw [show ((List.range n).filter fun x => decide (x ∉ q.2) && decide (x ∉ A.flatMap (·.2))) = (List.range n).filter fun x => decide (x ∉ (A ++ [q]).flatMap (·.2)) from List.filter_congr fun x _ => by
          rw [List.flatMap_append, List.flatMap_cons, Bool.eq_iff_iff, Bool.and_eq_true, decide_eq_true_iff, decide_eq_true_iff, decide_eq_true_iff, List.mem_append, List.flatMap_nil, List.append_nil, not_or]
          exact and_comm]
        exact this
  have := gen P [] rfl
  rwa [List.filter_eq_self.mpr fun x _ => by simp] at this
/-! ### going through the table's choices -/
def gaps (pl : List Nat) (t : Nat) : List (Nat × Nat) := (pl.zip ((pl ++ [t]).drop 1)).map fun ab => (ab.1 + 1, ab.2)
def rng (w : Nat × Nat) : List Nat := List.range' w.1 (w.2 - w.1)
theorem gaps_snoc : ∀ (pl : List Nat) (h t : Nat), gaps (pl ++ [h]) t = gaps pl h ++ [(h + 1, t)]
  | [], h, t => rfl
  | [a], h, t => rfl
  | a :: b :: pl, h, t => by
    have ih := gaps_snoc (b :: pl) h t
    unfold gaps at ih ⊢
    show (a + 1, b) :: ((b :: pl ++ [h]).zip ((pl ++ [h]) ++ [t])).map _ = (a + 1, b) :: _ ++ _
    rw [List.cons_append]
    congr 1
theorem rng_mem {w : Nat × Nat} {x : Nat} : x ∈ rng w ↔ w.1 ≤ x ∧ x < w.2 := by
  unfold rng
  rw [List.mem_range'_1]
  omega
theorem rng_cut {b h t : Nat} (h1 : b ≤ h) (h2 : h < t) : rng (b, t) = rng (b, h) ++ h :: rng (h + 1, t) := by
  unfold rng
  show List.range' b (t - b) = List.range' b (h - b) ++ h :: List.range' (h + 1) (t - (h + 1))
  have e1 : t - b = (h - b) + (1 + (t - (h + 1))) := by omega
  rw [e1, List.range'_append_1.symm]
  congr 1
  rw [show b + (h - b) = h by omega, Nat.add_comm 1, List.range'_succ]
section
variable {ps : List W} {pr : Nat → Int} {L : W} {S : Nat → Dc}
def costAt (S : Nat → Dc) (w : Nat × Nat) : Int := ((get (S w.1) w.2).map (·.cost)).getD 0
theorem costAt_some {w : Nat × Nat} {g : Ch} (h : get (S w.1) w.2 = some g) : costAt S w = g.cost := by unfold costAt; rw [h]; rfl
theorem chn_gaps {b s : Nat} {c0 c : Int} {p : W} {pl : List Nat} (hS : Bd S (b + 1) L.length) (h : Chn S L b c0 p pl s c) : ∀ t g, get (S s) t = some g →
    (rng (b, t)).Perm (pl ++ (gaps pl t).flatMap rng) ∧ (∀ w, w ∈ gaps pl t → b < w.1 ∧ w.1 ≤ w.2 ∧ w.2 ≤ L.length ∧ ∃ ch, get (S w.1) w.2 = some ch) ∧ c0 + ((gaps pl t).map (costAt S)).sum = c + g.cost ∧
    pl.Pairwise (· < ·) ∧ (∀ x, x ∈ pl → b ≤ x ∧ x < s) ∧ pl.map (fun x => L[x]?) = p.map some ∧ (gaps pl t).length = pl.length ∧ pl.length = p.length ∧ pl.head? = some b := by
  induction h with
  | @one a h =>
    intro t g hg
    have hb := (List.getElem?_eq_some_iff.mp h).1
    have z := (hS (b + 1) (Nat.le_refl _) hb).2 _ _ (get_mem hg)
    refine ⟨?_, fun w hw => ?_, ?_, by simp, fun x hx => ?_, ?_, rfl, rfl, rfl⟩
    · rw [rng_cut (Nat.le_refl b) (show b < t by omega)]
      have e : rng (b, b) = [] := by unfold rng; simp
      rw [e]
      show (b :: rng (b + 1, t)).Perm (b :: (rng (b + 1, t) ++ []))
      rw [List.append_nil]
    · have : w = (b + 1, t) := List.mem_singleton.mp hw
      subst this
      exact ⟨by show b < b + 1; omega, z.1, z.2, g, hg⟩
    · show c0 + (costAt S (b + 1, t) + 0) = _
      rw [costAt_some (w := (b + 1, t)) hg]
      omega
    · rw [List.mem_singleton.mp hx]
      omega
    · show [L[b]?] = [some a]
      rw [h]
  | @more p pl a s h c g1 h1 h2 h3 ih =>
    intro t g hg
    obtain ⟨i1, i2, i3, i4, i5, i6, i7, i8, i9⟩ := ih h g1 h2
    have hs := h1.lt hS
    have z1 := (hS s (by omega) hs.2).2 _ _ (get_mem h2)
    have hb := (List.getElem?_eq_some_iff.mp h3).1
    have z := (hS (h + 1) (by omega) hb).2 _ _ (get_mem hg)
    rw [gaps_snoc]
    refine ⟨?_, fun w hw => ?_, ?_, ?_, fun x hx => ?_, ?_, ?_, ?_, ?_⟩
    · rw [rng_cut (show b ≤ h by omega) (show h < t by omega), List.flatMap_append]
      have e : [(h + 1, t)].flatMap rng = rng (h + 1, t) := by simp
      rw [e]
      have := i1.append_right (h :: rng (h + 1, t))
      refine this.trans ?_
      rw [List.append_assoc, List.append_assoc]
      refine List.Perm.append_left pl ?_
      rw [show [h] ++ ((gaps pl h).flatMap rng ++ rng (h + 1, t)) = h :: ((gaps pl h).flatMap rng ++ rng (h + 1, t)) from rfl]
      exact List.perm_middle
    · rcases List.mem_append.mp hw with hw | hw
      · obtain ⟨a1, a2, a3, a4⟩ := i2 w hw
        exact ⟨a1, a2, a3, a4⟩
      · have : w = (h + 1, t) := List.mem_singleton.mp hw
        subst this
        exact ⟨by show b < h + 1; omega, z.1, z.2, g, hg⟩
    · rw [List.map_append, List.sum_append]
      show _ + (_ + (costAt S (h + 1, t) + 0)) = _
      rw [costAt_some (w := (h + 1, t)) hg]
      omega
    · refine List.pairwise_append.mpr ⟨i4, by simp, fun x hx y hy => ?_⟩
      rw [List.mem_singleton.mp hy]
      have := i5 x hx
      omega
    · rcases List.mem_append.mp hx with hx | hx
      · have := i5 x hx
        omega
      · rw [List.mem_singleton.mp hx]
        omega
    · rw [List.map_append, List.map_append, i6]
      show _ ++ [L[h]?] = _ ++ [some a]
      rw [h3]
    · rw [List.length_append, List.length_append, i7]
      rfl
    · rw [List.length_append, List.length_append, i8]
      rfl
    · rw [List.head?_append, i9]
      rfl
/-- on the way: parts found, stretches that wait -/
structure PI (ps : List W) (pr : Nat → Int) (L : W) (S : Nat → Dc) (xs : List Nat) (total : Int) (F : List Part) (Wt : List (Nat × Nat)) : Prop where
  wf : ∀ q, q ∈ F → WF ps L q
  perm : (F.flatMap (·.2) ++ Wt.flatMap rng).Perm xs
  wt : ∀ w, w ∈ Wt → w.1 ≤ w.2 ∧ w.2 ≤ L.length ∧ ∃ ch, get (S w.1) w.2 = some ch
  btw : ∀ A q B, F = A ++ q :: B → ∀ x, Btw q.2 x → (∃ r, r ∈ B ∧ x ∈ r.2) ∨ ∃ w, w ∈ Wt ∧ w.1 ≤ x ∧ x < w.2
  cost : (F.map fun q => pr q.1).sum + (Wt.map (costAt S)).sum = total
def meas (Wt : List (Nat × Nat)) : Nat := (Wt.map fun w => 2 * (w.2 - w.1) + 1).sum
theorem PI.start {b e : Nat} {g : Ch} (h1 : b ≤ e) (h2 : e ≤ L.length) (h : get (S b) e = some g) : PI ps pr L S (rng (b, e)) g.cost [] [(b, e)] :=
  ⟨fun _ h => (List.not_mem_nil h).elim, by simp, fun w hw => by rw [List.mem_singleton.mp hw]; exact ⟨h1, h2, g, h⟩, fun A q B e => by simp at e, by show 0 + (costAt S (b, e) + 0) = _; rw [costAt_some (w := (b, e)) h]; omega⟩
theorem PI.skip {xs : List Nat} {total : Int} {F : List Part} {Wt : List (Nat × Nat)} {t : Nat} (hG : ∀ b, b ≤ L.length → All (Good ps pr L S b) (S b)) (hB : Bd S 0 L.length) (h : PI ps pr L S xs total F (Wt ++ [(t, t)])) : PI ps pr L S xs total F Wt := by
  have er : rng (t, t) = [] := by unfold rng; simp
  refine ⟨h.wf, ?_, fun w hw => h.wt w (List.mem_append_left _ hw), fun A q B e x hx => ?_, ?_⟩
  · have := h.perm
    rw [List.flatMap_append] at this
    simpa [er] using this
  · rcases h.btw A q B e x hx with z | ⟨w, hw, z⟩
    · exact .inl z
    · rcases List.mem_append.mp hw with hw | hw
      · exact .inr ⟨w, hw, z⟩
      · rw [List.mem_singleton.mp hw] at z
        exact absurd z (by show ¬ (t ≤ x ∧ x < t); omega)
  · have := h.cost
    rw [List.map_append, List.sum_append] at this
    obtain ⟨_, h2, ch, hc⟩ := h.wt (t, t) (by simp)
    have e0 : ch.cost = 0 := by
      rcases hG t h2 _ _ (get_mem hc) with ⟨_, e⟩ | ⟨n, p, s, c, g, _, _, h3, h4, _⟩
      · rw [e]
        rfl
      · have hB' : Bd S (t + 1) L.length := fun s h1 h2 => hB s (Nat.zero_le _) h2
        have z := h3.lt hB'
        have := (hB s (Nat.zero_le _) z.2).2 _ _ (get_mem h4)
        omega
    have e1 : costAt S (t, t) = 0 := by rw [costAt_some (w := (t, t)) hc, e0]
    simpa [e1] using this
theorem PI.step {xs : List Nat} {total : Int} {F : List Part} {Wt : List (Nat × Nat)} {b t : Nat} (hne : ∀ p, p ∈ ps → p ≠ []) (hG : ∀ b, b ≤ L.length → All (Good ps pr L S b) (S b)) (hB : Bd S 0 L.length) (hlt : b < t) (h : PI ps pr L S xs total F (Wt ++ [(b, t)])) :
    ∃ ch n p, get (S b) t = some ch ∧ ch.num = some n ∧ ps[n]? = some p ∧ 1 ≤ ch.pl.length ∧ ch.pl.length = p.length ∧ (gaps ch.pl t).length = ch.pl.length ∧ PI ps pr L S xs total (F ++ [(n, ch.pl)]) (Wt ++ gaps ch.pl t) ∧ meas (Wt ++ gaps ch.pl t) < meas (Wt ++ [(b, t)]) := by
  obtain ⟨_, ht, ch, hc⟩ := h.wt (b, t) (by simp)
  have hB' : Bd S (b + 1) L.length := fun s h1 h2 => hB s (Nat.zero_le _) h2
  rcases hG b (by omega) _ _ (get_mem hc) with ⟨e, _⟩ | ⟨n, p, s, c, g, hn, hp, h3, h4, h5⟩
  · omega
  obtain ⟨i1, i2, i3, i4, i5, i6, i7, i8, i9⟩ := chn_gaps hB' h3 t g h4
  have hpl : ch.pl ≠ [] := fun z => by rw [z] at i9; cases i9
  have hwf : WF ps L (n, ch.pl) := ⟨p, hp, hne p (List.mem_of_getElem? hp), i4, i6⟩
  refine ⟨ch, n, p, hc, hn, hp, List.length_pos_iff.mpr hpl, i8, i7, ⟨fun q hq => ?_, ?_, fun w hw => ?_, fun A q B e x hx => ?_, ?_⟩, ?_⟩
  · rcases List.mem_append.mp hq with hq | hq
    · exact h.wf q hq
    · rw [List.mem_singleton.mp hq]
      exact hwf
  · have hp0 := h.perm
    rw [List.flatMap_append] at hp0
    rw [List.flatMap_append, List.flatMap_append]
    have e1 : [(n, ch.pl)].flatMap (fun q : Part => q.2) = ch.pl := by simp
    have e2 : [(b, t)].flatMap rng = rng (b, t) := by simp
    rw [e1]
    rw [e2] at hp0
    refine List.Perm.trans ?_ hp0
    rw [List.append_assoc]
    refine List.Perm.append_left _ ?_
    refine List.Perm.trans ?_ (List.Perm.append_left _ i1.symm)
    rw [← List.append_assoc, ← List.append_assoc]
    exact List.Perm.append_right _ List.perm_append_comm
  · rcases List.mem_append.mp hw with hw | hw
    · exact h.wt w (List.mem_append_left _ hw)
    · exact (i2 w hw).2
  · have inside : ∀ y, b ≤ y → y < t → y ∈ ch.pl ∨ ∃ w, w ∈ Wt ++ gaps ch.pl t ∧ w.1 ≤ y ∧ y < w.2 := fun y h1 h2 => by
      have hy : y ∈ rng (b, t) := rng_mem.mpr ⟨h1, h2⟩
      rcases List.mem_append.mp (i1.mem_iff.mp hy) with z | z
      · exact .inl z
      · obtain ⟨w, hw, z⟩ := List.mem_flatMap.mp z
        exact .inr ⟨w, List.mem_append_right _ hw, rng_mem.mp z⟩
    rcases List.append_eq_append_iff.mp e with ⟨C, e1, e2⟩ | ⟨C, e1, e2⟩
    · -- q stands in the new part
      have hC : C = [] ∧ q = (n, ch.pl) ∧ B = [] := by
        cases C with
        | nil =>
          rw [List.nil_append] at e2
          obtain ⟨h1, h2⟩ := List.cons.inj e2
          exact ⟨rfl, h1.symm, h2.symm⟩
        | cons c C =>
          have := congrArg List.length e2
          simp at this
      obtain ⟨_, rfl, rfl⟩ := hC
      obtain ⟨⟨u, hu, hux⟩, ⟨v, hv, hxv⟩, hnx⟩ := hx
      have h1 := i5 u hu
      have h2 := i5 v hv
      have h6 := (hB s (Nat.zero_le _) (h3.lt hB').2).2 _ _ (get_mem h4)
      rcases inside x (by omega) (by omega) with z | z
      · exact absurd z hnx
      · exact .inr z
    · cases C with
      | nil =>
        rw [List.append_nil] at e1
        rw [List.nil_append] at e2
        obtain ⟨h1, h2⟩ := List.cons.inj e2
        subst h1
        subst h2
        obtain ⟨⟨u, hu, hux⟩, ⟨v, hv, hxv⟩, hnx⟩ := hx
        have h1 := i5 u hu
        have h2 := i5 v hv
        have h6 := (hB s (Nat.zero_le _) (h3.lt hB').2).2 _ _ (get_mem h4)
        rcases inside x (by omega) (by omega) with z | z
        · exact absurd z hnx
        · exact .inr z
      | cons c C =>
        rw [List.cons_append] at e2
        obtain ⟨rfl, e3⟩ := List.cons.inj e2
        rcases h.btw A q C e1 x hx with ⟨r, h1, h2⟩ | ⟨w, hw, hw2⟩
        · exact .inl ⟨r, by rw [e3]; exact List.mem_append_left _ h1, h2⟩
        · rcases List.mem_append.mp hw with hw | hw
          · exact .inr ⟨w, List.mem_append_left _ hw, hw2⟩
          · rw [List.mem_singleton.mp hw] at hw2
            rcases inside x hw2.1 hw2.2 with z | z
            · exact .inl ⟨(n, ch.pl), by rw [e3]; simp, z⟩
            · exact .inr z
  · have h0 := h.cost
    rw [List.map_append, List.sum_append] at h0 ⊢
    rw [List.map_append, List.sum_append]
    have e2 : ([(b, t)].map (costAt S)).sum = ch.cost := by
      show costAt S (b, t) + 0 = _
      rw [costAt_some (w := (b, t)) hc]
      omega
    have e3 : ([((n, ch.pl) : Part)].map fun q => pr q.1).sum = pr n := by
      show pr n + 0 = _
      omega
    rw [e2] at h0
    rw [e3]
    omega
  · unfold meas
    rw [List.map_append, List.map_append, List.sum_append, List.sum_append]
    have e2 : ([(b, t)].map fun w : Nat × Nat => 2 * (w.2 - w.1) + 1).sum = 2 * (t - b) + 1 := by simp
    rw [e2]
    have len1 := i1.length_eq
    have e3 : ∀ G : List (Nat × Nat), (G.map fun w => 2 * (w.2 - w.1) + 1).sum = 2 * (G.flatMap rng).length + G.length := by
      intro G
      induction G with
      | nil => rfl
      | cons w G ih =>
        rw [List.map_cons, List.sum_cons, ih, List.flatMap_cons, List.length_append, List.length_cons]
        have : (rng w).length = w.2 - w.1 := by unfold rng; exact List.length_range' ..
        omega
    rw [e3, e3, i7]
    rw [List.length_append] at len1
    have e4 : (rng (b, t)).length = t - b := by unfold rng; exact List.length_range' ..
    have := List.length_pos_iff.mpr hpl
    omega
theorem PI.done {xs : List Nat} {total : Int} {F : List Part} (h : PI ps pr L S xs total F []) : PO ps L F.reverse xs ∧ (F.reverse.map fun q => pr q.1).sum = total := by
  refine ⟨⟨fun q hq => h.wf q (List.mem_reverse.mp hq), ?_, fun A q B e x hx => ?_⟩, ?_⟩
  · have := h.perm
    rw [List.flatMap_nil, List.append_nil] at this
    exact ((List.reverse_perm F).flatMap_right _).trans this
  · have e1 : F = B.reverse ++ q :: A.reverse := by
      have := congrArg List.reverse e
      rw [List.reverse_reverse] at this
      rw [this]
      simp
    rcases h.btw _ q _ e1 x hx with ⟨r, h1, h2⟩ | ⟨w, hw, _⟩
    · exact ⟨r, List.mem_reverse.mp h1, h2⟩
    · exact (List.not_mem_nil hw).elim
  · have := h.cost
    rw [List.map_nil, List.sum_nil] at this
    rw [List.map_reverse, List.sum_reverse]
    omega
theorem PO.whole {P : List Part} (h : PO ps L P (rng (0, L.length))) : Run ps L (List.range L.length) P ∧ Sq ps L (strk (List.range L.length) P) [] := by
  have er : rng (0, L.length) = List.range L.length := by
    unfold rng
    rw [List.range_eq_range']
    rfl
  rw [er] at h
  have hr := h.run List.nodup_range L.length fun x hx => List.mem_range.mp hx
  have hs := hr.sq _ _ List.pairwise_lt_range
  have hf : fin (List.range L.length) P = [] := by
    rw [fin_eq]
    refine List.filter_eq_nil_iff.mpr fun x hx z => ?_
    exact (of_decide_eq_true z) (h.perm.mem_iff.mpr hx)
  rw [txt_all, hf] at hs
  exact ⟨hr, hs⟩
end
end BP

/-! costs of idle stretches -/
namespace BC
open BS
mutual
inductive CI (ps : List W) (pr : Nat → Int) (L : W) : Nat → Nat → Int → Prop where
  | nil (b : Nat) : b ≤ L.length → CI ps pr L b b 0
  | put {n b s e : Nat} {p : W} {c1 c2 : Int} : ps[n]? = some p → CJ ps pr L n b p s c1 → CI ps pr L s e c2 → CI ps pr L b e (c1 + c2)
inductive CJ (ps : List W) (pr : Nat → Int) (L : W) : Nat → Nat → W → Nat → Int → Prop where
  | one {n b a : Nat} : L[b]? = some a → CJ ps pr L n b [a] (b + 1) (pr n)
  | more {n b s h a : Nat} {p : W} {c1 c2 : Int} : CJ ps pr L n b p s c1 → CI ps pr L s h c2 → L[h]? = some a → CJ ps pr L n b (p ++ [a]) (h + 1) (c1 + c2)
end
section
variable {ps : List W} {pr : Nat → Int} {L : W}
mutual
theorem CI.le {b e : Nat} {c : Int} : CI ps pr L b e c → b ≤ e ∧ e ≤ L.length
  | .nil b h => ⟨Nat.le_refl _, h⟩
  | .put _ h1 h2 => by
    have z1 := CJ.lt h1
    have z2 := CI.le h2
    omega
theorem CJ.lt {n b s : Nat} {p : W} {c : Int} : CJ ps pr L n b p s c → b < s ∧ s ≤ L.length
  | .one h => ⟨by omega, (List.getElem?_eq_some_iff.mp h).1⟩
  | .more h1 h2 h3 => by
    have z1 := CJ.lt h1
    have z2 := CI.le h2
    have z3 := (List.getElem?_eq_some_iff.mp h3).1
    omega
end
theorem CJ.cs {n b s : Nat} {p : W} {c : Int} : CJ ps pr L n b p s c → CS (CI ps pr L) L b (pr n) p s c
  | .one h => .one h
  | .more h1 h2 h3 => .more (CJ.cs h1) h2 h3
theorem CJ.of {n b s : Nat} {p : W} {c : Int} (h : CS (CI ps pr L) L b (pr n) p s c) : CJ ps pr L n b p s c := by
  induction h with
  | one h => exact .one h
  | more _ h2 h3 ih => exact .more ih h2 h3
theorem costs : Costs ps pr L (CI ps pr L) := ⟨fun _ _ _ h => h.le, fun b e c hb => by
  constructor
  · intro h
    cases h with
    | nil _ _ => exact .inl ⟨rfl, rfl⟩
    | put h1 h2 h3 => exact .inr ⟨_, _, h1, _, _, _, h2.cs, h3, rfl⟩
  · rintro (⟨rfl, rfl⟩ | ⟨n, p, h1, s, c1, c2, h2, h3, rfl⟩)
    · exact .nil _ hb
    · exact .put h1 (CJ.of h2) h3⟩
/-! ### idle stretches are those with costs -/
mutual
theorem CI.idle {b e : Nat} {c : Int} (hne : ∀ p, p ∈ ps → p ≠ []) : CI ps pr L b e c → IL.I ps L b e
  | .nil b h => (IK.ends_of h hne).mpr (.inl rfl)
  | .put h1 h2 h3 => (IK.ends_of (by have := CJ.lt h2; omega) hne).mpr (.inr ⟨_, List.mem_of_getElem? h1, _, CJ.spots hne h2, CI.idle hne h3⟩)
theorem CJ.spots {n b s : Nat} {p : W} {c : Int} (hne : ∀ p, p ∈ ps → p ≠ []) : CJ ps pr L n b p s c → IK.Spots ps L b p s
  | .one h => (IK.spots_one (Nat.le_of_lt (List.getElem?_eq_some_iff.mp h).1)).mpr ⟨rfl, h⟩
  | .more h1 h2 h3 => (IK.spots_more (CS.ne h1.cs)).mpr ⟨_, CJ.spots hne h1, _, rfl, CI.idle hne h2, h3⟩
end
end
end BC

/-! what idle words cost: by putting pieces in, by stretches -/
namespace ILC
abbrev W := List Nat
section
variable {ps : List W} {pr : Nat → Int}
inductive IC (ps : List W) (pr : Nat → Int) : W → Int → Prop where
  | nil : IC ps pr [] 0
  | put {u w p : W} {n : Nat} {c : Int} : ps[n]? = some p → IC ps pr (u ++ w) c → IC ps pr (u ++ p ++ w) (c + pr n)
def Hd (ps : List W) (pr : Nat → Int) (q : W) (c : Int) : Prop := (q = [] ∧ c = 0) ∨ ∃ n, ps[n]? = some q ∧ c = pr n
inductive GC (ps : List W) (pr : Nat → Int) : W → W → Int → Prop where
  | nil : GC ps pr [] [] 0
  | cons (a : Nat) {p q s w : W} {cq cs cw : Int} : Hd ps pr q cq → GC ps pr q s cs → GC ps pr p w cw → GC ps pr (a :: p) (a :: (s ++ w)) (cq + cs + cw)
def SC (ps : List W) (pr : Nat → Int) (w : W) (c : Int) : Prop := ∃ q cq cs, Hd ps pr q cq ∧ GC ps pr q w cs ∧ c = cq + cs
theorem IC.cst {w w' : W} {c c' : Int} (h : IC ps pr w c) (ew : w = w') (ec : c = c') : IC ps pr w' c' := ew ▸ ec ▸ h
theorem GC.cst {p w w' : W} {c c' : Int} (h : GC ps pr p w c) (ew : w = w') (ec : c = c') : GC ps pr p w' c' := ew ▸ ec ▸ h
theorem SC.cst {w w' : W} {c c' : Int} (h : SC ps pr w c) (ew : w = w') (ec : c = c') : SC ps pr w' c' := ew ▸ ec ▸ h
theorem hd_nil (hne : ∀ p, p ∈ ps → p ≠ []) {c : Int} (h : Hd ps pr [] c) : c = 0 := by
  rcases h with h | ⟨n, h, _⟩
  · exact h.2
  · exact absurd rfl (hne _ (List.mem_of_getElem? h))
theorem GC.empty {w : W} {c : Int} (h : GC ps pr [] w c) : w = [] ∧ c = 0 := by cases h; exact ⟨rfl, rfl⟩
theorem SC.nil : SC ps pr [] 0 := ⟨[], 0, 0, .inl ⟨rfl, rfl⟩, .nil, rfl⟩
theorem GC.app (hne : ∀ p, p ∈ ps → p ≠ []) {p u : W} {c : Int} (h : GC ps pr p u c) : p ≠ [] → ∀ v cv, SC ps pr v cv → GC ps pr p (u ++ v) (c + cv) := by
  induction h with
  | nil => exact fun e => absurd rfl e
  | @cons a p q s w cq cs cw hq gs gp ihs ihp =>
    intro _ v cv hv
    by_cases ep : p = []
    · subst ep
      obtain ⟨ew, ec⟩ := gp.empty
      subst ew ec
      by_cases eq : q = []
      · subst eq
        obtain ⟨es, ecs⟩ := gs.empty
        subst es ecs
        have e0 := hd_nil hne hq
        subst e0
        obtain ⟨r, cr, cs', hr, gr, rfl⟩ := hv
        exact (GC.cons a hr gr (.nil (ps := ps) (pr := pr))).cst (by simp) (by omega)
      · exact (GC.cons a hq (ihs eq v cv hv) (.nil (ps := ps) (pr := pr))).cst (by simp) (by omega)
    · exact (GC.cons a hq gs (ihp ep v cv hv)).cst (by simp) (by omega)
theorem SC.app (hne : ∀ p, p ∈ ps → p ≠ []) {u v : W} {c d : Int} (h : SC ps pr u c) (g : SC ps pr v d) : SC ps pr (u ++ v) (c + d) := by
  obtain ⟨q, cq, cs, hq, gq, rfl⟩ := h
  by_cases e : q = []
  · subst e
    obtain ⟨e1, e2⟩ := gq.empty
    have e3 := hd_nil hne hq
    subst e1 e2 e3
    exact g.cst (by simp) (by omega)
  · exact ⟨q, cq, cs + d, hq, gq.app hne e v d g, by omega⟩
theorem GC.insert (hne : ∀ p, p ∈ ps → p ≠ []) {m : W} {cm : Int} (hm : SC ps pr m cm) {p x : W} {c : Int} (h : GC ps pr p x c) : ∀ u w, x = u ++ w → u ≠ [] → GC ps pr p (u ++ m ++ w) (c + cm) := by
  induction h with
  | nil =>
    intro u w e hu
    have := List.append_eq_nil_iff.mp e.symm
    exact absurd this.1 hu
  | @cons a p q s w' cq cs cw hq gs gp ihs ihp =>
    intro u w e hu
    obtain ⟨b, u', rfl⟩ : ∃ b u', u = b :: u' := by
      cases u with
      | nil => exact absurd rfl hu
      | cons b u' => exact ⟨b, u', rfl⟩
    have e1 : a = b := by
      have := congrArg List.head? e
      simpa using this
    subst e1
    have e2 : s ++ w' = u' ++ w := by simpa using e
    rcases List.append_eq_append_iff.mp e2 with ⟨t, h1, h2⟩ | ⟨t, h1, h2⟩
    · subst h1
      by_cases et : t = []
      · subst et
        obtain ⟨r, cr, cs', hr, gr, er⟩ := SC.app hne (u := s) ⟨q, cq, cs, hq, gs, rfl⟩ hm
        have h2 : w' = w := by simpa using h2
        subst h2
        exact (GC.cons a hr gr gp).cst (by simp) (by omega)
      · exact (GC.cons a hq gs (ihp t w h2 et)).cst (by simp) (by omega)
    · subst h2
      have hs : SC ps pr (u' ++ m ++ t) (cq + cs + cm) := by
        by_cases eu : u' = []
        · subst eu
          have := SC.app hne (v := s) hm ⟨q, cq, cs, hq, gs, rfl⟩
          rw [h1] at this
          exact this.cst (by simp) (by omega)
        · exact ⟨q, cq, cs + cm, hq, ihs u' t h1 eu, by omega⟩
      obtain ⟨r, cr, cs', hr, gr, er⟩ := hs
      exact (GC.cons a hr gr gp).cst (by simp) (by omega)
theorem SC.insert (hne : ∀ p, p ∈ ps → p ≠ []) {m u w : W} {cm c : Int} (hm : SC ps pr m cm) (h : SC ps pr (u ++ w) c) : SC ps pr (u ++ m ++ w) (c + cm) := by
  by_cases e : u = []
  · subst e
    exact (hm.app hne h).cst (by simp) (by omega)
  · obtain ⟨q, cq, cs, hq, g, rfl⟩ := h
    exact ⟨q, cq, cs + cm, hq, g.insert hne hm u w rfl e, by omega⟩
theorem GC.self : ∀ p : W, GC ps pr p p 0
  | [] => .nil
  | a :: p => (GC.cons a (.inl ⟨rfl, rfl⟩) .nil (GC.self p)).cst (by simp) (by omega)
theorem IC.insert {m : W} {cm : Int} (hm : IC ps pr m cm) : ∀ u w c, IC ps pr (u ++ w) c → IC ps pr (u ++ m ++ w) (c + cm) := by
  induction hm with
  | nil => intro u w c h; exact h.cst (by simp) (by omega)
  | @put x y p n cx hp _ ih =>
    intro u w c h
    have h := ih u w c h
    have e : u ++ (x ++ y) ++ w = (u ++ x) ++ (y ++ w) := by simp
    rw [e] at h
    exact (IC.put hp h).cst (by simp) (by omega)
theorem GC.snoc {p u : W} {a : Nat} {s : W} {c d : Int} (h : GC ps pr p u c) (hs : SC ps pr s d) : GC ps pr (p ++ [a]) (u ++ a :: s) (c + d) := by
  induction h with
  | nil =>
    obtain ⟨q, cq, cs, hq, g, rfl⟩ := hs
    exact (GC.cons a hq g (.nil (ps := ps) (pr := pr))).cst (by simp) (by omega)
  | @cons b p q t w cq cs cw hq gs gp ihs ihp => exact (GC.cons b hq gs ihp).cst (by simp) (by omega)
theorem GC.unsnoc : ∀ {p : W} {a : Nat} {w : W} {c : Int}, GC ps pr (p ++ [a]) w c → ∃ u s c1 c2, w = u ++ a :: s ∧ GC ps pr p u c1 ∧ SC ps pr s c2 ∧ c = c1 + c2
  | [], a, w, c, h => by
    cases h with
    | @cons _ _ q s w' cq cs cw hq gs gp =>
      obtain ⟨e1, e2⟩ := gp.empty
      subst e1 e2
      exact ⟨[], s, 0, cq + cs, by simp, .nil, ⟨q, cq, cs, hq, gs, rfl⟩, by omega⟩
  | b :: p, a, w, c, h => by
    cases h with
    | @cons _ _ q s w' cq cs cw hq gs gp =>
      obtain ⟨u, t, c1, c2, rfl, g1, g2, rfl⟩ := GC.unsnoc (p := p) gp
      exact ⟨b :: (s ++ u), t, cq + cs + c1, c2, by simp, .cons b hq gs g1, g2, by omega⟩
/-! ### stretches -/
variable {L : W}
open BC
def Fst (ps : List W) (pr : Nat → Int) (L : W) (n b : Nat) (p : W) (s : Nat) (c : Int) : Prop := ∃ q a h cq, p = q ++ [a] ∧ s = h + 1 ∧ GC ps pr q (IL.st L b h) cq ∧ L[h]? = some a ∧ c = pr n + cq ∧ b ≤ h
theorem sc_put {n b s e : Nat} {p : W} {c1 c2 : Int} (h1 : ps[n]? = some p) (h2 : Fst ps pr L n b p s c1) (z : s ≤ e ∧ e ≤ L.length) (hs : SC ps pr (IL.st L s e) c2) : SC ps pr (IL.st L b e) (c1 + c2) := by
  obtain ⟨q, a, h, cq, rfl, rfl, g, hl, e1, hbh⟩ := h2
  refine ⟨q ++ [a], pr n, cq + c2, .inr ⟨n, h1, rfl⟩, ?_, by omega⟩
  rw [IL.st_split (h := h) hbh (by omega), IL.st_cons hl (by omega)]
  exact g.snoc hs
theorem fst_one {n b a : Nat} (h : L[b]? = some a) : Fst ps pr L n b [a] (b + 1) (pr n) := ⟨[], a, b, 0, rfl, rfl, by rw [IL.st_self]; exact .nil, h, by omega, Nat.le_refl _⟩
theorem fst_more {n b s h a : Nat} {p : W} {c1 c2 : Int} (h1 : Fst ps pr L n b p s c1) (z : s ≤ h ∧ h ≤ L.length) (hs : SC ps pr (IL.st L s h) c2) (h3 : L[h]? = some a) : Fst ps pr L n b (p ++ [a]) (h + 1) (c1 + c2) := by
  obtain ⟨q, a', h', cq, rfl, rfl, g, hl, e1, hbh⟩ := h1
  refine ⟨q ++ [a'], a, h, cq + c2, rfl, rfl, ?_, h3, by omega, by omega⟩
  rw [IL.st_split (h := h') hbh (by omega), IL.st_cons hl (by omega)]
  exact g.snoc hs
mutual
theorem ci_sc {b e : Nat} {c : Int} : CI ps pr L b e c → SC ps pr (IL.st L b e) c
  | .nil b h => by rw [IL.st_self]; exact .nil
  | .put h1 h2 h3 => sc_put h1 (cj_gc h2) h3.le (ci_sc h3)
theorem cj_gc {n b s : Nat} {p : W} {c : Int} : CJ ps pr L n b p s c → Fst ps pr L n b p s c
  | .one h => fst_one h
  | .more h1 h2 h3 => fst_more (cj_gc h1) h2.le (ci_sc h2) h3
end
end
end ILC

/-! what a log comes to: kept letters, all between them idle -/
namespace LFT
open BS
/-- w is left of a text: its letters, all between them being idle -/
inductive LW (ps : List W) : W → W → Prop where
  | nil {u : W} : IL.Idle ps u → LW ps u []
  | cons {u v w : W} {a : Nat} : IL.Idle ps u → LW ps v w → LW ps (u ++ a :: v) (a :: w)
section
variable {ps : List W} {L : W}
theorem LW.refl : ∀ w : W, LW ps w w
  | [] => .nil .nil
  | a :: w => .cons (u := []) .nil (LW.refl w)
theorem LW.insert {m : W} (hm : IL.Idle ps m) {x w : W} (h : LW ps x w) : ∀ l r, x = l ++ r → LW ps (l ++ m ++ r) w := by
  induction h with
  | nil hu =>
    intro l r e
    subst e
    exact .nil (IL.Idle.insert hm l r hu)
  | @cons u v w a hu hv ih =>
    intro l r e
    rcases List.append_eq_append_iff.mp e with ⟨t, e1, e2⟩ | ⟨t, e1, e2⟩
    · cases t with
      | nil =>
        rw [List.append_nil] at e1
        subst e1
        have e3 : r = a :: v := by simpa using e2.symm
        subst e3
        have := IL.Idle.insert hm l [] (by rw [List.append_nil]; exact hu)
        rw [List.append_nil] at this
        exact .cons this hv
      | cons c t =>
        obtain ⟨rfl, e3⟩ := List.cons.inj e2
        have := ih t r e3
        rw [e1, List.append_assoc, List.append_assoc, List.cons_append, ← List.append_assoc t m r]
        exact .cons hu this
    · subst e1
      have := IL.Idle.insert hm l t hu
      rw [e2, ← List.append_assoc]
      exact .cons this hv
/-- kept places from b on -/
inductive KP (ps : List W) (L : W) : Nat → List Nat → Prop where
  | fin {b : Nat} : IL.I ps L b L.length → KP ps L b []
  | keep {b h : Nat} {ks : List Nat} : IL.I ps L b h → h < L.length → KP ps L (h + 1) ks → KP ps L b (h :: ks)
/-- kept places up to b -/
inductive PP (ps : List W) (L : W) : List Nat → Nat → Prop where
  | start : PP ps L [] 0
  | next {ks : List Nat} {b h : Nat} : PP ps L ks b → IL.I ps L b h → h < L.length → PP ps L (ks ++ [h]) (h + 1)
theorem PP.kp {ks : List Nat} {b : Nat} (h : PP ps L ks b) : ∀ ks', KP ps L b ks' → KP ps L 0 (ks ++ ks') := by
  induction h with
  | start => exact fun ks' h => h
  | @next ks b h0 _ h1 h2 ih =>
    intro ks' h
    rw [List.append_assoc]
    exact ih _ (.keep h1 h2 h)
theorem KP.le {b : Nat} {ks : List Nat} (h : KP ps L b ks) : b ≤ L.length := by
  cases h with
  | fin h => exact h.1
  | keep h1 h2 _ => exact Nat.le_trans h1.1 (Nat.le_of_lt h2)
theorem KP.asc {b : Nat} {ks : List Nat} (h : KP ps L b ks) : ks.Pairwise (· < ·) ∧ ∀ x, x ∈ ks → b ≤ x ∧ x < L.length := by
  induction h with
  | fin h => exact ⟨.nil, fun x hx => (List.not_mem_nil hx).elim⟩
  | @keep b h ks h1 h2 _ ih =>
    have hb := h1.1
    refine ⟨List.pairwise_cons.mpr ⟨fun x hx => ?_, ih.1⟩, fun x hx => ?_⟩
    · have := (ih.2 x hx).1
      omega
    · rcases List.mem_cons.mp hx with e | hx
      · rw [e]
        exact ⟨hb, h2⟩
      · have := ih.2 x hx
        omega
/-! ### the striking that leaves the kept places -/
def between : Nat → List Nat → Nat → List (Nat × Nat)
  | b, [], n => [(b, n)]
  | b, h :: ks, n => (b, h) :: between (h + 1) ks n
theorem asc_one : ∀ {M N : List Nat}, M.Pairwise (· < ·) → N.Pairwise (· < ·) → (∀ p, p ∈ M ↔ p ∈ N) → M = N
  | [], [], _, _, _ => rfl
  | [], q :: N, _, _, h => absurd ((h q).mpr List.mem_cons_self) List.not_mem_nil
  | p :: M, [], _, _, h => absurd ((h p).mp List.mem_cons_self) List.not_mem_nil
  | p :: M, q :: N, h1, h2, h => by
    obtain ⟨a1, a2⟩ := List.pairwise_cons.mp h1
    obtain ⟨b1, b2⟩ := List.pairwise_cons.mp h2
    have e : p = q := by
      rcases List.mem_cons.mp ((h p).mp List.mem_cons_self) with z | z
      · exact z
      · rcases List.mem_cons.mp ((h q).mpr List.mem_cons_self) with z2 | z2
        · exact z2.symm
        · have := b1 p z
          have := a1 q z2
          omega
    subst e
    congr 1
    refine asc_one a2 b2 fun x => ?_
    constructor
    · intro hx
      rcases List.mem_cons.mp ((h x).mp (List.mem_cons_of_mem _ hx)) with z | z
      · have := a1 x hx
        omega
      · exact z
    · intro hx
      rcases List.mem_cons.mp ((h x).mpr (List.mem_cons_of_mem _ hx)) with z | z
      · have := b1 x hx
        omega
      · exact z
theorem KP.rest {b : Nat} {ks : List Nat} (h : KP ps L b ks) : ((between b ks L.length).flatMap BP.rng).Nodup ∧ ∀ x, x ∈ (between b ks L.length).flatMap BP.rng ↔ b ≤ x ∧ x < L.length ∧ x ∉ ks := by
  induction h with
  | @fin b h =>
    have e : (between b [] L.length).flatMap BP.rng = BP.rng (b, L.length) := by
      show BP.rng (b, L.length) ++ [] = _
      rw [List.append_nil]
    rw [e]
    refine ⟨List.nodup_range', fun x => ?_⟩
    rw [BP.rng_mem]
    simp
  | @keep b h ks h1 h2 hk ih =>
    have hb := h1.1
    have ha := hk.asc.2
    have e : (between b (h :: ks) L.length).flatMap BP.rng = BP.rng (b, h) ++ (between (h + 1) ks L.length).flatMap BP.rng := List.flatMap_cons
    rw [e]
    refine ⟨List.nodup_append.mpr ⟨List.nodup_range', ih.1, fun x hx y hy e => ?_⟩, fun x => ?_⟩
    · have z1 := BP.rng_mem.mp hx
      have z2 := ((ih.2 y).mp hy).1
      have z3 : x < h := z1.2
      omega
    · rw [List.mem_append, BP.rng_mem, ih.2, List.mem_cons]
      constructor
      · rintro (⟨z1, z2⟩ | ⟨z1, z2, z3⟩)
        · have z1 : b ≤ x := z1
          have z2 : x < h := z2
          refine ⟨z1, by omega, ?_⟩
          rintro (z | z)
          · omega
          · have := (ha x z).1
            omega
        · refine ⟨by omega, z2, ?_⟩
          rintro (z | z)
          · omega
          · exact z3 z
      · rintro ⟨z1, z2, z3⟩
        rcases Nat.lt_trichotomy x h with z | z | z
        · exact .inl ⟨z1, z⟩
        · exact absurd (.inl z) z3
        · exact .inr ⟨by omega, z2, fun q => z3 (.inr q)⟩
/-- the parts of all stretches between, one behind another: the striking that leaves the kept ones -/
theorem but {ks : List Nat} {P : List BP.Part} (h : KP ps L 0 ks) (hP : BP.PO ps L P ((between 0 ks L.length).flatMap BP.rng)) :
    BP.Run ps L (List.range L.length) P ∧ BP.Sq ps L (BP.strk (List.range L.length) P) (BP.txt L ks) := by
  obtain ⟨nd, hm⟩ := h.rest
  have hr : BP.Run ps L (List.range L.length) P := hP.run nd L.length fun x hx => ((hm x).mp hx).2.1
  refine ⟨hr, ?_⟩
  have hl : (List.range L.length).Pairwise (· < ·) := List.pairwise_lt_range
  have hs := BP.Run.sq P _ hl hr
  rw [BP.txt_all] at hs
  have e : BP.fin (List.range L.length) P = ks := by
    rw [BP.fin_eq]
    refine asc_one (List.Pairwise.filter _ hl) h.asc.1 fun x => ?_
    rw [List.mem_filter, List.mem_range, decide_eq_true_iff, hP.perm.mem_iff, hm]
    constructor
    · rintro ⟨h1, h2⟩
      rcases Decidable.em (x ∈ ks) with z | z
      · exact z
      · exact absurd ⟨Nat.zero_le _, h1, z⟩ h2
    · exact fun z => ⟨(h.asc.2 x z).2, fun q => q.2.2 z⟩
  rw [e] at hs
  exact hs
end
end LFT

/-! the law's own table of beginnings of pieces -/
namespace IP
abbrev W := List Nat
/-- from b to e stand the first m signs of piece n, idle stretches between them -/
def Parts (ps : List W) (L : W) (b e n m : Nat) : Prop := ∃ p, ps[n]? = some p ∧ 1 ≤ m ∧ m ≤ p.length ∧ IK.Spots ps L b (p.take m) e
variable {ps : List W} {L p : W} {b e n m : Nat}
end IP

/-! dicts whose keys are pairs of whole numbers; lists of beginnings of pieces -/
namespace IQ
open PySem PySem.Spec PyProof.Rows L2
abbrev W := List Nat
def kp (p : Nat × Nat) : List Key := [IK.ki p.1, IK.ki p.2]
def ttP (L : List (Nat × Nat)) : List (List Key × V) := L.map fun p => (kp p, V.bl true)
section
variable {H : Hp} {Q : VK}
end
/-! ### beginnings -/
section
variable {ps : List W} {L : W}
structure PF (ps : List W) (L : W) (b e : Nat) (M : List (Nat × Nat)) : Prop where
  nd : M.Nodup
  mem : ∀ n m, (n, m) ∈ M ↔ IP.Parts ps L b e n m
/-- one letter more -/
def Nxt (ps : List W) (L : W) (e n m : Nat) : Prop := ∃ p a, ps[n]? = some p ∧ p[m]? = some a ∧ L[e - 1]? = some a
/-- the first letters alone -/
def One (ps : List W) (L : W) (b e n : Nat) : Prop := e = b + 1 ∧ ∃ p a, ps[n]? = some p ∧ L[b]? = some a ∧ p[0]? = some a
end
end IQ

/-! least and greatest costs, and dicts of them -/
open PySem PySem.Spec PyProof.Rows L2
namespace IMC
/-- c's least and greatest -/
def MM (C : Int → Prop) (lo hi : Int) : Prop := C lo ∧ C hi ∧ ∀ c, C c → lo ≤ c ∧ c ≤ hi
theorem MM.one {C : Int → Prop} {a b c d : Int} (h : MM C a b) (g : MM C c d) : a = c ∧ b = d := by
  have h1 := (h.2.2 c g.1).1
  have h2 := (g.2.2 a h.1).1
  have h3 := (h.2.2 d g.2.1).2
  have h4 := (g.2.2 b h.2.1).2
  omega
theorem MM.congr {C D : Int → Prop} {a b : Int} (e : ∀ c, C c ↔ D c) (h : MM C a b) : MM D a b := ⟨(e _).mp h.1, (e _).mp h.2.1, fun c hc => h.2.2 c ((e c).mpr hc)⟩
theorem MM.sum {C D : Int → Prop} {a b c d : Int} (h : MM C a b) (g : MM D c d) : MM (fun x => ∃ u v, C u ∧ D v ∧ x = u + v) (a + c) (b + d) := by
  refine ⟨⟨_, _, h.1, g.1, rfl⟩, ⟨_, _, h.2.1, g.2.1, rfl⟩, fun x hx => ?_⟩
  obtain ⟨u, v, h1, h2, rfl⟩ := hx
  have h3 := h.2.2 u h1
  have h4 := g.2.2 v h2
  omega
theorem MM.or {C D : Int → Prop} {a b c d : Int} (h : MM C a b) (g : MM D c d) : MM (fun x => C x ∨ D x) (if a < c then a else c) (if b > d then b else d) := by
  refine ⟨?_, ?_, fun x hx => ?_⟩
  · split
    · exact .inl h.1
    · exact .inr g.1
  · split
    · exact .inl h.2.1
    · exact .inr g.2.1
  · rcases hx with hx | hx
    · have := h.2.2 x hx
      split <;> split <;> omega
    · have := g.2.2 x hx
      split <;> split <;> omega
/-- a list of pairs that covers c -/
structure Cov (C : Int → Prop) (M : List (Int × Int)) : Prop where
  on : ∀ a b, (a, b) ∈ M → C a ∧ C b
  all : ∀ c, C c → ∃ a b, (a, b) ∈ M ∧ a ≤ c ∧ c ≤ b
theorem Cov.congr {C D : Int → Prop} {M : List (Int × Int)} (e : ∀ c, C c ↔ D c) (h : Cov C M) : Cov D M := ⟨fun a b m => ⟨(e _).mp (h.on a b m).1, (e _).mp (h.on a b m).2⟩, fun c hc => h.all c ((e c).mpr hc)⟩
theorem Cov.nil {C : Int → Prop} (h : ∀ c, ¬ C c) : Cov C [] := ⟨fun a b m => (List.not_mem_nil m).elim, fun c hc => absurd hc (h c)⟩
theorem Cov.or {C D : Int → Prop} {M N : List (Int × Int)} (h : Cov C M) (g : Cov D N) : Cov (fun c => C c ∨ D c) (M ++ N) := by
  refine ⟨fun a b m => ?_, fun c hc => ?_⟩
  · rcases List.mem_append.mp m with m | m
    · exact ⟨.inl (h.on a b m).1, .inl (h.on a b m).2⟩
    · exact ⟨.inr (g.on a b m).1, .inr (g.on a b m).2⟩
  · rcases hc with hc | hc
    · obtain ⟨a, b, m, z⟩ := h.all c hc
      exact ⟨a, b, List.mem_append_left _ m, z⟩
    · obtain ⟨a, b, m, z⟩ := g.all c hc
      exact ⟨a, b, List.mem_append_right _ m, z⟩
theorem Cov.single {C : Int → Prop} {a b : Int} (h : MM C a b) : Cov C [(a, b)] := ⟨fun x y m => by cases List.mem_singleton.mp m; exact ⟨h.1, h.2.1⟩, fun c hc => ⟨a, b, by simp, h.2.2 c hc⟩⟩
theorem Cov.none {C : Int → Prop} (h : Cov C []) : ∀ c, ¬ C c := fun c hc => by
  obtain ⟨a, b, hm, _⟩ := h.all c hc
  exact List.not_mem_nil hm
/-! ### beginnings of pieces with costs of their gaps -/
section
open BC
variable {ps : List BS.W} {pr : Nat → Int} {L : BS.W}
def PT (ps : List BS.W) (pr : Nat → Int) (L : BS.W) (b e n m : Nat) (c : Int) : Prop := ∃ p, ps[n]? = some p ∧ 1 ≤ m ∧ m ≤ p.length ∧ CJ ps pr L n b (p.take m) e (pr n + c)
/-- whole pieces, their prices among the costs -/
def WT (ps : List BS.W) (pr : Nat → Int) (L : BS.W) (b y : Nat) (c : Int) : Prop := ∃ n p c1, ps[n]? = some p ∧ PT ps pr L b y n p.length c1 ∧ c = c1 + pr n
end
/-! ### dicts from pairs -/
def dv (L : List ((Nat × Nat) × V)) : List (List Key × V) := L.map fun q => (IQ.kp q.1, q.2)
/-- least and greatest, if there is any, as a value found -/
def CV (H : Hp) (C : Int → Prop) (o : Option V) : Prop := (o = none ∧ ∀ c, ¬ C c) ∨ ∃ u lo hi, o = some (.ref u) ∧ H u = some (.tup [.int lo, .int hi]) ∧ MM C lo hi
theorem CV.same {H H' : Hp} {C : Int → Prop} {o : Option V} (s : Same H H') (h : CV H C o) : CV H' C o := by
  rcases h with h | ⟨u, lo, hi, e, h1, h2⟩
  · exact .inl h
  · exact .inr ⟨u, lo, hi, e, s _ _ h1, h2⟩
theorem CV.kb {H H' : Hp} {C : Int → Prop} {o : Option V} {D : Addr} (k : RD.KB D H H') (nd : ∀ xs, H D ≠ some (.tup xs)) (h : CV H C o) : CV H' C o := by
  rcases h with h | ⟨u, lo, hi, e, h1, h2⟩
  · exact .inl h
  · exact .inr ⟨u, lo, hi, e, k _ _ (fun z => nd _ (by rw [← z]; exact h1)) h1, h2⟩
theorem CV.congr {H : Hp} {C D : Int → Prop} {o : Option V} (e : ∀ c, C c ↔ D c) (h : CV H C o) : CV H D o := by
  rcases h with ⟨h1, h2⟩ | ⟨u, lo, hi, e0, h1, h2⟩
  · exact .inl ⟨h1, fun c hc => h2 c ((e c).mpr hc)⟩
  · exact .inr ⟨u, lo, hi, e0, h1, h2.congr e⟩
theorem CV.some {H : Hp} {C : Int → Prop} {v : V} (h : CV H C (some v)) : ∃ u lo hi, v = .ref u ∧ H u = some (.tup [.int lo, .int hi]) ∧ MM C lo hi := by
  rcases h with ⟨h, _⟩ | ⟨u, lo, hi, e, h⟩
  · cases h
  · exact ⟨u, lo, hi, Option.some.inj e, h⟩
end IMC

/-! dicts with number keys, what their values hold told by a predicate -/
namespace DPX
open PySem PySem.Spec PyProof.Rows L2
/-- each entry's key is a number n, its value is as R n tells, no key twice -/
def DP (R : Nat → V → Prop) (kvs : List (Key × V)) : Prop := (kvs.map (·.1)).Nodup ∧ ∀ kv, kv ∈ kvs → ∃ n, kv.1 = IK.ki n ∧ R n kv.2
def has (kvs : List (Key × V)) (n : Nat) : Prop := IK.ki n ∈ kvs.map (·.1)
theorem keys_put (kvs : List (Key × V)) (k k' : Key) (v : V) : k' ∈ (putK kvs k v).map (·.1) ↔ k' ∈ kvs.map (·.1) ∨ k' = k := by
  unfold putK
  by_cases h : (kvs.any fun kv => decide (kv.1 = k)) = true
  · rw [if_pos h]
    have e : (kvs.map fun kv => if kv.1 = k then (kv.1, v) else kv).map (·.1) = kvs.map (·.1) := by
      rw [List.map_map]
      refine List.map_congr_left fun kv _ => ?_
      show (if kv.1 = k then (kv.1, v) else kv).1 = kv.1
      split <;> rfl
    rw [e]
    obtain ⟨kv, hm, hk⟩ := List.any_eq_true.mp h
    have hk := of_decide_eq_true hk
    exact ⟨.inl, fun h => h.elim id fun e => by rw [e, ← hk]; exact List.mem_map.mpr ⟨kv, hm, rfl⟩⟩
  · rw [if_neg h, List.map_append, List.mem_append]
    simp
theorem nodup_put {kvs : List (Key × V)} (nd : (kvs.map (·.1)).Nodup) (k : Key) (v : V) : ((putK kvs k v).map (·.1)).Nodup := by
  unfold putK
  by_cases h : (kvs.any fun kv => decide (kv.1 = k)) = true
  · rw [if_pos h]
    have e : (kvs.map fun kv => if kv.1 = k then (kv.1, v) else kv).map (·.1) = kvs.map (·.1) := by
      rw [List.map_map]
      refine List.map_congr_left fun kv _ => ?_
      show (if kv.1 = k then (kv.1, v) else kv).1 = kv.1
      split <;> rfl
    rw [e]
    exact nd
  · rw [if_neg h, List.map_append]
    refine List.nodup_append.mpr ⟨nd, by simp, fun a ha b hb e => h ?_⟩
    have hb : b = k := by simpa using hb
    rw [e, hb] at ha
    obtain ⟨kv, hm, hk⟩ := List.mem_map.mp ha
    exact List.any_eq_true.mpr ⟨kv, hm, decide_eq_true hk⟩
theorem mem_put {kvs : List (Key × V)} {k : Key} {v : V} {kv : Key × V} (h : kv ∈ putK kvs k v) : kv = (k, v) ∨ (kv ∈ kvs ∧ kv.1 ≠ k) := by
  unfold putK at h
  by_cases q : (kvs.any fun kv => decide (kv.1 = k)) = true
  · rw [if_pos q] at h
    obtain ⟨x, hx, e⟩ := List.mem_map.mp h
    by_cases hk : x.1 = k
    · rw [if_pos hk] at e
      exact .inl (by rw [← e, hk])
    · rw [if_neg hk] at e
      exact .inr ⟨e ▸ hx, e ▸ hk⟩
  · rw [if_neg q] at h
    rcases List.mem_append.mp h with h | h
    · refine .inr ⟨h, fun e => q (List.any_eq_true.mpr ⟨kv, h, decide_eq_true e⟩)⟩
    · exact .inl (List.mem_singleton.mp h)
theorem DP.nil {R : Nat → V → Prop} : DP R [] := ⟨List.nodup_nil, fun kv h => (List.not_mem_nil h).elim⟩
theorem DP.one {R : Nat → V → Prop} {n : Nat} {v : V} (h : R n v) : DP R [(IK.ki n, v)] := ⟨by simp, fun kv hm => by
  rw [List.mem_singleton.mp hm]
  exact ⟨n, rfl, h⟩⟩
theorem DP.put {R : Nat → V → Prop} {kvs : List (Key × V)} {n : Nat} {v : V} (h : DP R kvs) (hv : R n v) : DP R (putK kvs (IK.ki n) v) := ⟨nodup_put h.1 _ _, fun kv hm => by
  rcases mem_put hm with e | ⟨e, _⟩
  · rw [e]
    exact ⟨n, rfl, hv⟩
  · exact h.2 kv e⟩
theorem DP.merge {R : Nat → V → Prop} : ∀ {more kvs : List (Key × V)}, DP R kvs → (∀ kv, kv ∈ more → ∃ n, kv.1 = IK.ki n ∧ R n kv.2) → DP R (mergeK kvs more)
  | [], _, h, _ => h
  | kv :: more, kvs, h, g => by
    obtain ⟨n, e, r⟩ := g kv List.mem_cons_self
    show DP R (mergeK (putK kvs kv.1 kv.2) more)
    rw [e]
    exact (h.put r).merge fun x hx => g x (List.mem_cons_of_mem _ hx)
theorem DP.mono {R R' : Nat → V → Prop} {kvs : List (Key × V)} (f : ∀ n v, R n v → R' n v) (h : DP R kvs) : DP R' kvs := ⟨h.1, fun kv hm => by
  obtain ⟨n, e, r⟩ := h.2 kv hm
  exact ⟨n, e, f _ _ r⟩⟩
theorem DP.at_ {R : Nat → V → Prop} {kvs : List (Key × V)} (h : DP R kvs) {i : Nat} {kv : Key × V} (e : kvs[i]? = some kv) : ∃ n, kv.1 = IK.ki n ∧ R n kv.2 ∧ has kvs n := by
  have hm := List.mem_of_getElem? e
  obtain ⟨n, e1, r⟩ := h.2 kv hm
  exact ⟨n, e1, r, by unfold has; rw [← e1]; exact List.mem_map.mpr ⟨kv, hm, rfl⟩⟩
theorem DP.val {R : Nat → V → Prop} {kvs : List (Key × V)} (h : DP R kvs) {n : Nat} {v : V} (e : valV kvs (IK.ki n) = some v) : R n v := by
  unfold valV at e
  obtain ⟨kv, h1, h2⟩ := Option.map_eq_some_iff.mp e
  have hm := List.mem_of_find?_eq_some h1
  have hk : kv.1 = IK.ki n := by simpa using List.find?_some h1
  obtain ⟨m, e1, r⟩ := h.2 kv hm
  rw [e1, IK.ki_inj] at hk
  rw [← hk, ← h2]
  exact r
theorem DP.len {R : Nat → V → Prop} {kvs : List (Key × V)} {m : Nat} (h : DP R kvs) (b : ∀ n v, R n v → n ≤ m) : kvs.length ≤ m + 1 := by
  have key : ∀ l : List (Key × V), (l.map (·.1)).Nodup → (∀ kv, kv ∈ l → ∃ n, kv.1 = IK.ki n ∧ n ≤ m) → ∃ ns : List Nat, ns.Nodup ∧ ns.length = l.length ∧ l.map (·.1) = ns.map IK.ki ∧ ∀ n, n ∈ ns → n ≤ m := by
    intro l
    induction l with
    | nil => exact fun _ _ => ⟨[], List.nodup_nil, rfl, rfl, fun n h => (List.not_mem_nil h).elim⟩
    | cons kv l ih =>
      intro nd hl
      rw [List.map_cons, List.nodup_cons] at nd
      obtain ⟨ns, h1, h2, h3, h4⟩ := ih nd.2 fun x hx => hl x (List.mem_cons_of_mem _ hx)
      obtain ⟨n, e, hn⟩ := hl kv List.mem_cons_self
      refine ⟨n :: ns, List.nodup_cons.mpr ⟨fun hm => nd.1 ?_, h1⟩, by rw [List.length_cons, List.length_cons, h2], by rw [List.map_cons, List.map_cons, h3, e], fun x hx => ?_⟩
      · rw [h3, e]
        exact List.mem_map.mpr ⟨n, hm, rfl⟩
      · rcases List.mem_cons.mp hx with z | z
        · rw [z]
          exact hn
        · exact h4 x z
  obtain ⟨ns, h1, h2, _, h4⟩ := key kvs h.1 fun kv hm => by
    obtain ⟨n, e, r⟩ := h.2 kv hm
    exact ⟨n, e, b _ _ r⟩
  rw [← h2]
  exact IK.few h1 h4
/-! ### kept places step by step -/
open LFT
section
variable {ps : List BS.W} {L : BS.W}
/-- the spots behind the letters u -/
def Sp (ps : List BS.W) (L : BS.W) (u : List Nat) (b : Nat) : Prop := ∃ ks, PP ps L ks b ∧ BP.txt L ks = u
end
end DPX

/-! strikings and what is left; the least text that is left -/
namespace LFX
open PySem LFT
section
variable {ps : List BS.W} {L : BS.W}
/-- the texts that are left of the letters from b on -/
def TS (ps : List BS.W) (L : BS.W) (b : Nat) (w : BS.W) : Prop := ∃ ks, KP ps L b ks ∧ BP.txt L ks = w
/-- x is the least text that is left from b on -/
def MinAt (ps : List BS.W) (L : BS.W) (b : Nat) (x : Str) : Prop := TS ps L b x.cps.toList ∧ ∀ y : Str, TS ps L b y.cps.toList → SKL.leS x y = true
theorem le_refl (x : Str) : SKL.leS x x = true := by
  have := RSK.leZ_total (x.length, x) (x.length, x)
  rw [Bool.or_self] at this
  exact this
/-! ### stretch by stretch -/
/-- the stretches from the place b on that are still to be told, pre being told -/
def At (ps : List BS.W) (L : BS.W) (ks : List Nat) (i b : Nat) (pre : List (Nat × Nat)) : Prop :=
  (∃ ks', (ks ++ [L.length]).drop i = ks' ++ [L.length] ∧ KP ps L b ks' ∧ between 0 ks L.length = pre ++ between b ks' L.length) ∨ (i = ks.length + 1 ∧ pre = between 0 ks L.length)
end
section
variable {ps : List BS.W} {L : BS.W}
end
end LFX
/-! ### readings of the lambda's rules, heaps that keep all but tables -/
namespace SKR
open PySem PySem.Spec PyProof.Rows L2 LamX
section
variable {K : PySem.W.Frag} {T : List (Addr × Str)} {ta : TE} {σ : L2.St} {H H' H0 : Hp} {Q : VK} {a p : Addr} {zs : List Str}
def MinX (K : PySem.W.Frag) (T : List (Addr × Str)) (x : V) (H1 : Hp) (Q : VK) : Prop := ∃ (a : Addr) (zs : List Str), x = .ref a ∧ SqL K H1 a (zs.map V.str) ∧ 0 < zs.length ∧ (∀ z, z ∈ zs → z.length ≤ sizeLine) ∧ Tabs T H1 ∧
  ∀ H2 z, ExtN H1 H2 → Tabs T H2 → z ∈ zs → (∀ y, y ∈ zs → SKL.leS z y = true) → Q (.str z) H2
def SortX (K : PySem.W.Frag) (T : List (Addr × Str)) (x : V) (H1 : Hp) (Q : VK) : Prop := ∃ (a : Addr) (zs : List Str), x = .ref a ∧ SqL K H1 a (zs.map V.str) ∧ (∀ z, z ∈ zs → z.length ≤ sizeLine) ∧ Tabs T H1 ∧
  ∀ H2 p, ExtN H1 H2 → Tabs T H2 → H2 p = none → Q (.ref p) (upd H2 p (.lst ((zs.mergeSort SKL.leS).map V.str)))
def NewP (H : Hp) (p : Addr) : Prop := ∀ b o, H b = some o → (∀ ps, o ≠ .tbl ps) → b ≠ p
theorem NewP.of (n : H p = none) : NewP H p := fun b o h _ => ne_of_none h n
theorem NewP.ext (e : ExtN H H') (n : NewP H' p) : NewP H p := fun b o h nt => n b o (e b o h nt) nt
theorem NewP.same (s : Same H H') (n : NewP H' p) : NewP H p := n.ext (ExtN.of s)
end
end SKR

/-! sorted(set(xs)), xs a list of whole numbers -/
namespace SSI
open PySem PySem.Spec PySem.Calls PyProof.Rows L2
abbrev emptySet (w : World) : Obj := { cls := .type "set", dict := none, data := .set #[] 0 (.fresh 0 0 (!w.params.followText "set-order")) }
section
variable {P : Program} {w : World} {A : Around} {E : Value → Shared → Prop} {s : Shared}
theorem set_list {l : Addr} {its : Array Value} (ns : List Int) {Q : Value → Shared → Prop} (hh : A.handled = none) (hl : s.heap.IsList l its) (hi : IntsAre its.toList ns) (hb : ns.length + 1 < scanBound)
    (h : ∀ (h' : Heap) (tk c : Nat), SetR w h' s.heap.objs.size (fun j => decide (j ∈ ns)) c → c ≤ ns.length → (∀ b o, s.heap.get? b = some o → h'.get? b = some o) → Q (.ref s.heap.objs.size) { s with heap := h', toks := tk }) :
    wpAny (model P w) A (call (.type "set") [.ref l]) Q E s := by
  have hsz : its.size = ns.length := (Array.length_toList (xs := its)).symm.trans (IntsAre.length hi)
  obtain ⟨c, tl, hmro⟩ := PySem.F.called_set.mro
  have hmade := PySem.F.called_set.made
  have hsub := PySem.F.called_set.sub
  refine wpAny_call (codeAny_of_tree ?_)
  show wpAny _ _ (callAny (.type "set") _) _ _ _
  refine wpAny_pure ⟨Code.quiet_builtin _ (by decide +kernel), codeAny_builtin PySem.F.entry_type_call ?_⟩
  rw [Around.under_plain (weight_type_call_type "set" [.ref l] []) rfl]
  have h1 := PySem.F.called_set.notType
  have h2 := PySem.F.called_set.canCreate
  have hct := PySem.F.typeCall_set_1 (.ref l)
  repeat (any_goals (first | assumption | wp_step))
  refine codeAny_mono (SST.new_led (.ref l) (E := E) (Q := fun obj s₁ => obj = .ref s.heap.objs.size ∧ s₁ = { s with heap := s.heap.push (emptySet w) }) ⟨rfl, rfl⟩) fun r s1 hr => ?_
  cases r with
  | error e => exact hr
  | ok fl =>
    cases fl with
    | ret obj =>
      obtain ⟨rfl, rfl⟩ := hr
      have hS : (s.heap.push (emptySet w)).get? s.heap.objs.size = some (emptySet w) := Heap.get?_push_size _ rfl
      have old : ∀ b o, s.heap.get? b = some o → (s.heap.push (emptySet w)).get? b = some o := fun b o e => Heap.get?_push_of_some _ e
      have hz : (s.heap.push (emptySet w)).objs.size = s.heap.objs.size + 1 := Heap.size_push ..
      have hlt : l < s.heap.objs.size := by
        obtain ⟨o, e, _⟩ := hl
        exact Heap.lt_size e
      have hl1 : (s.heap.push (emptySet w)).IsList l its := hl.at fun o e => old _ _ e
      generalize s.heap.push (emptySet w) = hp at hS old hz hl1 ⊢
      have hT : Shared.TypeIs { s with heap := hp } (.ref s.heap.objs.size) "set" := ⟨_, hS, rfl⟩
      have hli := PySem.F.called_set.init.lookup
      have hbi := PySem.F.called_set.init.bind (.ref s.heap.objs.size)
      repeat (any_goals (first | assumption | wp_step))
      refine codeAny_mono (codeAny_call_builtin (R := wants (fun r s₂ => r = .none ∧ ∃ h' tk c, s₂ = { s with heap := h', toks := tk } ∧ SetR w h' s.heap.objs.size (fun j => decide (j ∈ ns)) c ∧ c ≤ ns.length ∧ (∀ b o, s.heap.get? b = some o → h'.get? b = some o)) E)
        PySem.F.called_set.init.plain PySem.F.entry_set_init (check_set_init_1 hT ?_)) fun r2 s2 hr2 => ?_
      · have hl2 := hl1
        obtain ⟨ol, hol, hcl, nl, hdl⟩ := hl1
        obtain ⟨ocls, odict, odata, oslots⟩ := ol
        simp only at hcl hdl
        subst hcl hdl
        have q1 := PySem.F.sub_list_set
        have q2 := PySem.F.sub_list_frozenset
        have q3 : (Value.type "list" == Value.type "dict") = false := by decide
        unfold Builtin.«set.__init__» noKeywords Builtin.Frozenset.updateFrom
        generalize hPI : pyIter = PI
        wp_walk
        subst hPI
        refine wpAny_pyIter_list hl2 ?_
        refine wpAny_bind (wpAny_runValue ?_)
        have hh3 : A.in1.in1.in1.handled = none := by simp [hh]
        have nI : l ≠ hp.objs.size := by
          rw [hz]
          exact Nat.ne_of_lt (Nat.lt_succ_of_lt hlt)
        have nS : s.heap.objs.size ∉ [hp.objs.size, l] := by
          rw [hz]
          simp only [List.mem_cons, List.not_mem_nil, or_false, not_or]
          exact ⟨Nat.ne_of_lt (Nat.lt_succ_self _), Nat.ne_of_gt hlt⟩
        refine set_update_ints ((Walks.list hh3 _ l nI its).toS) s.heap.objs.size nS ns hsz hb (fun i v hv => ?_) (its.size - 0) 0 _ (by omega) (Nat.zero_le _) ⟨⟨_, Heap.get?_push_size _ rfl, rfl, rfl⟩, hl2.push _⟩ ⟨0, Nat.le_refl 0, setR_new_at (Heap.get?_push_of_some _ hS)⟩ fun s' c' mv hc' hS' => ?_
        · have hlt2 : i < ns.length := by
            rw [← hsz]
            exact (Array.getElem?_eq_some_iff.mp hv).1
          obtain ⟨t, e⟩ := IntsAre.int_at hi i v (by rw [Array.getElem?_toList]; exact hv)
          refine ⟨ns[i], t, List.getElem?_eq_getElem hlt2, ?_⟩
          rw [e, List.getD_eq_getElem?_getD, List.getElem?_eq_getElem hlt2] <;> rfl
        · obtain ⟨h3, g3, d3, tk3, os3⟩ := s'
          obtain rfl : g3 = s.gens := mv.gens
          obtain rfl : d3 = s.drawn := mv.drawn
          obtain rfl : os3 = s.os := mv.os
          rw [hsz] at hc'
          refine wpAny_pure (wpAny_pure ⟨rfl, h3, tk3, c', rfl, hS', hc', fun b o e => ?_⟩)
          have lt := Heap.lt_size e
          refine mv.heap b o (fun z => ?_) (Heap.get?_push_of_some _ (old b o e))
          rcases List.mem_cons.mp z with z | z
          · exact absurd z (Nat.ne_of_lt lt)
          · have z := List.mem_singleton.mp z
            rw [hz] at z
            exact absurd z (Nat.ne_of_lt (Nat.lt_succ_of_lt lt))
      · cases r2 with
        | error e => exact hr2
        | ok fl2 =>
          cases fl2 with
          | ret r =>
            obtain ⟨rfl, h', tk, c', rfl, k1, k2, k3⟩ := hr2
            repeat (any_goals (first | assumption | wp_step))
            exact h _ _ _ k1 k2 k3
          | _ => exact hr2.elim
    | _ => exact hr.elim
end
/-- sorted(set(e)), e a list of whole numbers -/
def tSSI (K : PySem.W.Frag) (te : TE) : TE := fun σ H Q => te σ H fun v H1 => ∃ (l : Addr) (ns : List Int), v = .ref l ∧ SqL K H1 l (ns.map V.int) ∧ ns.length < 64 ∧ ∀ (ys : List Int) (p : Addr), ys.Pairwise (· < ·) → (∀ k, k ∈ ys ↔ k ∈ ns) → H1 p = none → Q (.ref p) (upd H1 p (.lst (ys.map V.int)))
section
variable {X : Cx}
theorem pe_ssI {e : Expr} {te : TE} {p p2 q pos : Pos} (hg : Gl X "sorted") (hm : X.mg "sorted" = none) (hg2 : Gl X "set") (hm2 : X.mg "set" = none) (he : PE X e te) (hc : X.calm = true := by rfl)
    (ne : starEach [e] X.env = (false, eval e X.env) :: starEach [] X.env := by rfl) : PE X (.Call (.Name "sorted" p) [.Call (.Name "set" p2) [e] [] q] [] pos) (tSSI X.K te) := by
  refine ⟨fun pins s σ H Q I h => ?_⟩
  refine Call_ (ld_blt I hg hm Boot.sorted ?_)
  refine PyProof.Rows.callWith_builtin1 (PyProof.Rows.args_cons ?_ rfl) rfl rfl
  refine Call_ (ld_blt I hg2 hm2 PyProof.Rows.boot_set ?_)
  refine PyProof.Rows.callWith_type1 (PyProof.Rows.args_cons (thn (he.run pins s σ H _ I h) fun v s1 hh => PyProof.Rows.args_nil ?_) ne) ne rfl
  obtain ⟨v, H1, I1, rv, l, ns, rfl, hs, hn, q1⟩ := hh
  obtain rfl : _ = Value.ref l := rv
  obtain ⟨its, r, pl, hz⟩ := I1.list hs
  have hlen : ns.length = its.length := by rw [← r.length, List.length_map]
  refine set_list (P := X.prog) (w := X.w) ns (I1.ok.hd hc) pl.isList (by simpa using r.ints) (by unfold scanBound; omega) fun h' tk c R hcn k1 => PyProof.Rows.args_nil ?_
  have I2 : Inv X pins σ H1 { s1 with heap := h', toks := tk } := I1.kept k1
  have R2 : SetR X.w ({ s1 with heap := h', toks := tk } : Shared).heap s1.heap.objs.size (fun j => decide (j ∈ ns)) c := R
  generalize ({ s1 with heap := h', toks := tk } : Shared) = s2 at I2 R2 ⊢
  refine sorted_set R2 (I2.ok.hd hc) (by omega) fun s3 a out c3 ys k3 g3 o3 hp hget hi hsrt hmem hl3 => ?_
  have hlen : (ys.map V.int).length ≤ sizeLine := by rw [List.length_map, hl3, sizeLine_eq]; omega
  have hnn : H1 a = none := I2.hok.fresh hp
  have J : Inv X pins σ (upd H1 a (.lst (ys.map V.int))) { s2 with heap := s3.heap, gens := s3.gens, drawn := s3.drawn, toks := s3.toks } :=
    I2.call (ch := []) (Un.laid k3 hp hnn) (I2.hok.laid k3 hp ⟨hlen, out.toList, c3, vals_of_ints hi, hget⟩) (by rw [g3]; exact I2.bare) (fun _ z => nomatch z)
  have e : s3 = { s2 with heap := s3.heap, gens := s3.gens, drawn := s3.drawn, toks := s3.toks } := by
    cases s3
    cases s2
    cases o3
    rfl
  rw [e]
  exact ⟨.ref a, _, J, rfl, q1 ys a hsrt (fun k => (hmem k).trans decide_eq_true_iff) hnn⟩
theorem ssI {K : PySem.W.Frag} {te : TE} {σ : L2.St} {H : Hp} {Q : VK} (h : te σ H fun v H1 => ∃ (l : Addr) (ns : List Int), v = .ref l ∧ SqL K H1 l (ns.map V.int) ∧ ns.length < 64 ∧ ∀ (ys : List Int) (p : Addr), ys.Pairwise (· < ·) → (∀ k, k ∈ ys ↔ k ∈ ns) → H1 p = none → Q (.ref p) (upd H1 p (.lst (ys.map V.int)))) : tSSI K te σ H Q := h
end
end SSI

/-! all texts to some length; idle texts grown by putting pieces in -/
namespace IG
abbrev W := List Nat
def row (own : W) : Nat → List W
  | 0 => [[]]
  | n + 1 => (row own n).flatMap fun w => own.map fun a => w ++ [a]
def upto (own : W) : Nat → List W
  | 0 => [[]]
  | n + 1 => upto own n ++ row own (n + 1)
theorem row_mem {own : W} : ∀ {n : Nat} {w : W}, w ∈ row own n ↔ w.length = n ∧ ∀ a, a ∈ w → a ∈ own
  | 0, w => by
    show w ∈ [[]] ↔ _
    rw [List.mem_singleton]
    constructor
    · rintro rfl
      exact ⟨rfl, fun a h => (List.not_mem_nil h).elim⟩
    · rintro ⟨h, _⟩
      exact List.eq_nil_of_length_eq_zero h
  | n + 1, w => by
    show w ∈ (row own n).flatMap _ ↔ _
    rw [List.mem_flatMap]
    constructor
    · rintro ⟨u, hu, h⟩
      obtain ⟨a, ha, rfl⟩ := List.mem_map.mp h
      obtain ⟨h1, h2⟩ := row_mem.mp hu
      refine ⟨by rw [List.length_append, h1]; rfl, fun c hc => ?_⟩
      rcases List.mem_append.mp hc with z | z
      · exact h2 c z
      · rw [List.mem_singleton.mp z]
        exact ha
    · rintro ⟨h1, h2⟩
      rcases List.eq_nil_or_concat w with e | ⟨u, a, e⟩
      · rw [e] at h1
        cases h1
      · rw [List.concat_eq_append] at e
        subst e
        rw [List.length_append, List.length_singleton] at h1
        exact ⟨u, row_mem.mpr ⟨by omega, fun c hc => h2 c (List.mem_append_left _ hc)⟩, List.mem_map.mpr ⟨a, h2 a (by simp), rfl⟩⟩
theorem upto_mem {own : W} : ∀ {n : Nat} {w : W}, w ∈ upto own n ↔ w.length ≤ n ∧ ∀ a, a ∈ w → a ∈ own
  | 0, w => by
    show w ∈ row own 0 ↔ _
    rw [row_mem]
    exact and_congr_left fun _ => by omega
  | n + 1, w => by
    show w ∈ upto own n ++ row own (n + 1) ↔ _
    rw [List.mem_append, upto_mem, row_mem, ← or_and_right]
    exact and_congr_left fun _ => by omega
theorem row_len (own : W) : ∀ n, (row own n).length = own.length ^ n
  | 0 => rfl
  | n + 1 => by
    show ((row own n).flatMap _).length = _
    rw [List.length_flatMap, Nat.pow_succ, ← row_len own n]
    have : ∀ l : List W, (l.map fun w => (own.map fun a => w ++ [a]).length).sum = l.length * own.length := fun l => by
      induction l with
      | nil => simp
      | cons a l ih => rw [List.map_cons, List.sum_cons, ih, List.length_map, List.length_cons, Nat.add_mul]; omega
    exact this _
/-- a lot that is grown whole -/
structure Whole (ps : List W) (most : Nat) (F : List W) : Prop where
  first : [] ∈ F
  idle : ∀ w, w ∈ F → IL.Idle ps w ∧ w.length ≤ most
  more : ∀ w, w ∈ F → ∀ p, p ∈ ps → w.length + p.length ≤ most → ∀ i, i ≤ w.length → w.take i ++ p ++ w.drop i ∈ F
theorem Whole.of {ps : List W} {most : Nat} {F : List W} (h : Whole ps most F) {w : W} (hi : IL.Idle ps w) : w.length ≤ most → w ∈ F := by
  induction hi with
  | nil => exact fun _ => h.first
  | @put u v p hp _ ih =>
    intro hl
    rw [List.length_append, List.length_append] at hl
    have h1 := ih (by rw [List.length_append]; omega)
    have h2 := h.more _ h1 p hp (by rw [List.length_append]; omega) u.length (by rw [List.length_append]; omega)
    rwa [List.take_left, List.drop_left] at h2
theorem Whole.mem {ps : List W} {most : Nat} {F : List W} (h : Whole ps most F) {w : W} : w ∈ F ↔ IL.Idle ps w ∧ w.length ≤ most := ⟨h.idle w, fun hw => h.of hw.1 hw.2⟩
theorem idle_put {ps : List W} {w p : W} (h : IL.Idle ps w) (hp : p ∈ ps) (i : Nat) : IL.Idle ps (w.take i ++ p ++ w.drop i) := .put hp (by rw [List.take_append_drop]; exact h)
theorem idle_own {ps : List W} {w : W} (h : IL.Idle ps w) : ∀ a, a ∈ w → ∃ p, p ∈ ps ∧ a ∈ p := by
  induction h with
  | nil => exact fun a h => (List.not_mem_nil h).elim
  | @put u v p hp _ ih =>
    intro a ha
    rcases List.mem_append.mp ha with z | z
    · rcases List.mem_append.mp z with z | z
      · exact ih a (List.mem_append_left _ z)
      · exact ⟨p, hp, z⟩
    · exact ih a (List.mem_append_right _ z)
/-- growing: what is found, what waits -/
structure Grow (ps : List W) (most : Nat) (F Q : List W) : Prop where
  once : F.Nodup
  first : [] ∈ F ∨ [] ∈ Q
  idle : ∀ w, w ∈ F ∨ w ∈ Q → IL.Idle ps w ∧ w.length ≤ most
  more : ∀ w, w ∈ F → ∀ p, p ∈ ps → w.length + p.length ≤ most → ∀ i, i ≤ w.length → w.take i ++ p ++ w.drop i ∈ F ∨ w.take i ++ p ++ w.drop i ∈ Q
theorem Grow.whole {ps : List W} {most : Nat} {F : List W} (h : Grow ps most F []) : Whole ps most F :=
  ⟨h.first.resolve_right List.not_mem_nil, fun w hw => h.idle w (.inl hw), fun w hw p hp hl i hi => (h.more w hw p hp hl i hi).resolve_right List.not_mem_nil⟩
theorem Grow.skip {ps : List W} {most : Nat} {F Q : List W} {w : W} (h : Grow ps most F (Q ++ [w])) (hw : w ∈ F) : Grow ps most F Q := by
  have drop : ∀ v, v ∈ F ∨ v ∈ Q ++ [w] → v ∈ F ∨ v ∈ Q := fun v hv => by
    rcases hv with z | z
    · exact .inl z
    · rcases List.mem_append.mp z with z | z
      · exact .inr z
      · rw [List.mem_singleton.mp z]
        exact .inl hw
  exact ⟨h.once, drop _ h.first, fun v hv => h.idle v (hv.imp_right (List.mem_append_left _)), fun v hv p hp hl i hi => drop _ (h.more v hv p hp hl i hi)⟩
/-- what is put behind when w is found -/
def puts (ps : List W) (most : Nat) (w : W) : List W := ps.flatMap fun p => if w.length + p.length ≤ most then (List.range (w.length + 1)).map fun i => w.take i ++ p ++ w.drop i else []
theorem Grow.add {ps : List W} {most : Nat} {F Q : List W} {w : W} (h : Grow ps most F (Q ++ [w])) (hw : w ∉ F) : Grow ps most (F ++ [w]) (Q ++ puts ps most w) := by
  have hwi := h.idle w (.inr (by simp))
  have up : ∀ v, v ∈ F ∨ v ∈ Q ++ [w] → v ∈ F ++ [w] ∨ v ∈ Q ++ puts ps most w := fun v hv => by
    rcases hv with z | z
    · exact .inl (List.mem_append_left _ z)
    · rcases List.mem_append.mp z with z | z
      · exact .inr (List.mem_append_left _ z)
      · exact .inl (List.mem_append_right _ z)
  refine ⟨List.nodup_append.mpr ⟨h.once, by simp, fun a ha b hb e => hw (by rw [List.mem_singleton] at hb; rw [← hb, ← e]; exact ha)⟩, up _ h.first, fun v hv => ?_, fun v hv p hp hl i hi => ?_⟩
  · rcases hv with z | z
    · rcases List.mem_append.mp z with z | z
      · exact h.idle v (.inl z)
      · rw [List.mem_singleton.mp z]
        exact hwi
    · rcases List.mem_append.mp z with z | z
      · exact h.idle v (.inr (List.mem_append_left _ z))
      · obtain ⟨p, hp, z⟩ := List.mem_flatMap.mp z
        split at z
        · rename_i hl
          obtain ⟨i, hi, rfl⟩ := List.mem_map.mp z
          refine ⟨idle_put hwi.1 hp i, ?_⟩
          rw [List.length_append, List.length_append, List.length_take, List.length_drop]
          omega
        · exact (List.not_mem_nil z).elim
  · rcases List.mem_append.mp hv with z | z
    · exact up _ (h.more v z p hp hl i hi)
    · have := List.mem_singleton.mp z
      subst this
      refine .inr (List.mem_append_right _ (List.mem_flatMap.mpr ⟨p, hp, ?_⟩))
      rw [if_pos hl]
      exact List.mem_map.mpr ⟨i, List.mem_range.mpr (by omega), rfl⟩
end IG

/-! sorted(xs), xs a tuple of texts -/
namespace SOT
open PySem PySem.Spec PySem.Calls PyProof.Rows L2
def rSortTS (K : PySem.W.Frag) : List V → Hp → VK → Prop := fun vs H Q => ∃ (a : Addr) (ks : List Str), vs = [.ref a] ∧ SqT K H a (ks.map V.str) ∧ ks.length < 64 ∧
  ∀ (ys : List Str) (p : Addr), ys.Perm ks → sortedS ys = true → H p = none → Q (.ref p) (upd H p (.lst (ys.map V.str)))
theorem strs_of : ∀ {us : List Value} {ks : List Str}, Vals (ks.map V.str) us → StrsAre us ks := by
  intro us ks h
  refine strs_at (by rw [← h.length, List.length_map]) fun j v e => ?_
  have hj := (List.getElem?_eq_some_iff.mp e).1
  rw [← h.length, List.length_map] at hj
  obtain ⟨u, hu, ru⟩ := h.get (show (ks.map V.str)[j]? = some (.str ks[j]) by rw [List.getElem?_map, List.getElem?_eq_getElem hj]; rfl)
  rw [e] at hu
  cases hu
  obtain ⟨t, rfl⟩ := ru
  exact ⟨_, t, List.getElem?_eq_getElem hj, rfl⟩
section
variable {X : Cx}
theorem cr_sortTS : CallR X (.builtin "sorted") (rSortTS X.K) := by
  intro pins s σ H xs us Q I r q
  obtain ⟨a, ks, rfl, hq, h64, q⟩ := q
  obtain ⟨u, rfl, rx⟩ := vals1 r
  cases rx
  obtain ⟨its, rv, pl, hz⟩ := I.tuple hq
  obtain ⟨o, ho, hc, n, hd⟩ := pl
  have hS : StrsAre its ks := strs_of rv
  have hal : its.length = ks.length := by rw [← rv.length, List.length_map]
  refine Calls.call_function_entry PyProof.Rows.kind_sorted PyProof.Rows.plain_sorted PyProof.Rows.entry_sorted (PyProof.Rows.args_sorted1 _) ?_
  unfold Builtin.«sorted»
  refine wpAny_bind (m := checkCount "sorted" 1 1 _) (wpAny_pure ?_)
  refine wpAny_bind (wpAny_collect_seq a (.inr rfl) ho hc hd (fun h' hk => ?_) (by rw [List.size_toArray, hal, sizeLine_eq]; omega))
  have I1 : Inv X pins σ H { s with heap := h' } := I.kept (t' := s.toks) hk
  refine wpAny_bind (wpAny_newList ?_ (by rw [hal, sizeLine_eq]; omega))
  have hoL : (h'.push (seqObj "list" its.toArray 0)).get? h'.objs.size = some (seqObj "list" its.toArray 0) := Heap.get?_push_size _ rfl
  show wpAny _ _ _ _ _ { s with heap := h'.push (seqObj "list" its.toArray 0) }
  refine wpAny_bind (wpAny_holding (wpAny_call_entry PyProof.Rows.slot_list_sort ⟨_, hoL, rfl⟩ PyProof.Rows.entry_list_sort
    (list_sort_treeK strKind_oneLt (s := { s with heap := h'.push (seqObj "list" its.toArray 0) }) hoL hS.keysOf (fun v₁ v₂ rest e => keyKind_strs (by rw [← e]; exact hS)) (by rw [hal]; exact h64) fun st' hp hs => ⟨_, rfl, ?_⟩)
    (PyProof.Rows.args_list_sort _)))
  obtain ⟨ys, g1, g2, g3⟩ := sorted_out_str hS hp hs
  obtain ⟨e', he'⟩ := PyProof.Rows.sortedHeap_at (vs := its) (out := (arrOf st').map (·.2)) hoL
  have hlen : (ys.map V.str).length ≤ sizeLine := by
    rw [List.length_map, g2.length_eq]
    exact Nat.le_trans (Nat.le_of_lt h64) (by decide)
  refine wpAny_pure ⟨_, rfl, .ref h'.objs.size, upd H h'.objs.size (.lst (ys.map V.str)), I1.laid (t' := s.toks) (fun b u e => ?_) (Nat.le_refl _)
    (show ObjOk X.prog X.w _ _ _ (.lst (ys.map V.str)) from ⟨hlen, ((arrOf st').map (·.2)).toList, e', vals_of_strs g1, by rw [Array.toArray_toList]; exact he'⟩), rfl, q ys _ g2 g3 (I1.hok.fresh (Nat.le_refl _))⟩
  have hb : b < h'.objs.size := Heap.lt_size e
  rw [PyProof.Rows.sortedHeap_old (Nat.ne_of_lt hb) (by rw [size_push']; exact Nat.lt_succ_of_lt hb)]
  exact Heap.get?_push_of_some _ e
end
theorem sortTS {K : PySem.W.Frag} {H : Hp} {Q : VK} {a : Addr} {ks : List Str} (hs : H a = some (.tup (ks.map V.str))) (h64 : ks.length < 64) (q : ∀ p H' ys, H p = none → Same H H' → H' p = some (.lst (ys.map V.str)) → ys.Perm ks → sortedS ys = true → Q (.ref p) H') : rSortTS K [.ref a] H Q :=
  ⟨a, ks, rfl, .inl (.inl hs), h64, fun ys p h1 h2 hp => q p _ ys hp (RD.same_new hp) upd_same h1 h2⟩
end SOT

namespace K27
open PySem PySem.Spec PyProof.Rows L2
/-! ### the text -/
abbrev N_q_is_log : List Str := ["thing", "sign"]
theorem sc_q_is_log : FnScope N_q_is_log ["thing"] (defScope s_q_is_log) := ⟨rfl, rfl, rfl, by decide +kernel, rfl, by decide +kernel, by decide +kernel⟩
abbrev N_is_piece : List Str := ["thing"]
theorem sc_is_piece : FnScope N_is_piece ["thing"] (defScope s_is_piece) := ⟨rfl, rfl, rfl, by decide +kernel, rfl, by decide +kernel, by decide +kernel⟩
abbrev N_Book_init : List Str := ["self", "pieces", "number", "piece"]
theorem sc_Book_init : FnScope N_Book_init ["self", "pieces"] (defScope s_Book_init) := ⟨rfl, rfl, rfl, by decide +kernel, rfl, by decide +kernel, by decide +kernel⟩
abbrev N_Book_eq : List Str := ["self", "other"]
theorem sc_Book_eq : FnScope N_Book_eq ["self", "other"] (defScope s_Book_eq) := ⟨rfl, rfl, rfl, by decide +kernel, rfl, by decide +kernel, by decide +kernel⟩
abbrev N_q_idle_ends : List Str := ["book", "log", "ends", "begin", "found", "piece", "spots", "letter", "later", "spot", "here"]
theorem sc_q_idle_ends : FnScope N_q_idle_ends ["book", "log"] (defScope s_q_idle_ends) := ⟨rfl, rfl, rfl, by decide +kernel, rfl, by decide +kernel, by decide +kernel⟩
abbrev N_raw_is_idle : List Str := ["book", "log"]
theorem sc_raw_is_idle : FnScope N_raw_is_idle ["book", "log"] (defScope s_raw_is_idle) := ⟨rfl, rfl, rfl, by decide +kernel, rfl, by decide +kernel, by decide +kernel⟩
abbrev N_is_needless : List Str := ["book", "number", "others"]
theorem sc_is_needless : FnScope N_is_needless ["book", "number"] (defScope s_is_needless) := ⟨rfl, rfl, rfl, by decide +kernel, rfl, by decide +kernel, by decide +kernel⟩
abbrev N_q_needless : List Str := ["book", "number"]
theorem sc_q_needless : FnScope N_q_needless ["book"] (defScope s_q_needless) := ⟨rfl, rfl, rfl, by decide +kernel, rfl, by decide +kernel, by decide +kernel⟩
abbrev N_base : List Str := ["book", "number", "piece"]
theorem sc_base : FnScope N_base ["book"] (defScope s_base) := ⟨rfl, rfl, rfl, by decide +kernel, rfl, by decide +kernel, by decide +kernel⟩
abbrev N_q_parting : List Str := ["book", "other", "some", "piece"]
theorem sc_q_parting : FnScope N_q_parting ["book", "other"] (defScope s_q_parting) := ⟨rfl, rfl, rfl, by decide +kernel, rfl, by decide +kernel, by decide +kernel⟩
abbrev N_is_held : List Str := ["book", "other", "piece"]
theorem sc_is_held : FnScope N_is_held ["book", "other"] (defScope s_is_held) := ⟨rfl, rfl, rfl, by decide +kernel, rfl, by decide +kernel, by decide +kernel⟩
abbrev N_bag : List Str := ["_law_script", "_law_seed", "_law_cell", "_law_great", "_law_always"]
theorem sc_bag : FnScope N_bag ["_law_script"] (defScope s_bag) := ⟨rfl, rfl, rfl, by decide +kernel, rfl, by decide +kernel, by decide +kernel⟩
abbrev N_pick : List Str := ["_law_bag_here", "_law_many", "_law_great", "_law_digit", "_law_number"]
theorem sc_pick : FnScope N_pick ["_law_bag_here", "_law_many"] (defScope s_pick) := ⟨rfl, rfl, rfl, by decide +kernel, rfl, by decide +kernel, by decide +kernel⟩
abbrev N_some : List Str := ["_law_bag_here", "_law_things"]
theorem sc_some : FnScope N_some ["_law_bag_here", "_law_things"] (defScope s_some) := ⟨rfl, rfl, rfl, by decide +kernel, rfl, by decide +kernel, by decide +kernel⟩
abbrev N_own : List Str := ["_law_pieces"]
theorem sc_own : FnScope N_own ["_law_pieces"] (defScope s_own) := ⟨rfl, rfl, rfl, by decide +kernel, rfl, by decide +kernel, by decide +kernel⟩
abbrev N_named : List Str := ["_law_bag_here", "_law_pieces", "_law_left", "_law_names", "_law_letter", "_law_found", "_law_row", "_law_turn", "_law_piece"]
theorem sc_named : FnScope N_named ["_law_bag_here", "_law_pieces"] (defScope s_named) := ⟨rfl, rfl, rfl, by decide +kernel, rfl, by decide +kernel, by decide +kernel⟩
abbrev N_more : List Str := ["_law_bag_here", "_law_pieces", "_law_most", "_law_found", "_law_own_here", "_law_turn", "_law_piece", "_law_letter"]
theorem sc_more : FnScope N_more ["_law_bag_here", "_law_pieces", "_law_most"] (defScope s_more) := ⟨rfl, rfl, rfl, by decide +kernel, rfl, by decide +kernel, by decide +kernel⟩
abbrev N_full : List Str := ["_law_bag_here", "_law_menu"]
theorem sc_full : FnScope N_full ["_law_bag_here"] (defScope s_full) := ⟨rfl, rfl, rfl, by decide +kernel, rfl, by decide +kernel, by decide +kernel⟩
abbrev N_scant : List Str := ["_law_bag_here", "_law_menu"]
theorem sc_scant : FnScope N_scant ["_law_bag_here"] (defScope s_scant) := ⟨rfl, rfl, rfl, by decide +kernel, rfl, by decide +kernel, by decide +kernel⟩
abbrev N_idle_ends : List Str := ["_law_pieces", "_law_log", "_law_many", "_law_is_idle_here", "_law_size", "_law_begin", "_law_one", "_law_other_here"]
theorem sc_idle_ends : FnScope N_idle_ends ["_law_pieces", "_law_log"] (defScope s_idle_ends) := ⟨rfl, rfl, rfl, by decide +kernel, rfl, by decide +kernel, by decide +kernel⟩
abbrev N_is_stretch : List Str := ["_law_pieces", "_law_log", "_law_is_idle_here", "_law_begin", "_law_end", "_law_piece", "_law_spots", "_law_letter", "_law_later", "_law_spot", "_law_some_here", "_law_here"]
theorem sc_is_stretch : FnScope N_is_stretch ["_law_pieces", "_law_log", "_law_is_idle_here", "_law_begin", "_law_end"] (defScope s_is_stretch) := ⟨rfl, rfl, rfl, by decide +kernel, rfl, by decide +kernel, by decide +kernel⟩
abbrev N_is_idle : List Str := ["_law_pieces", "_law_log"]
theorem sc_is_idle : FnScope N_is_idle ["_law_pieces", "_law_log"] (defScope s_is_idle) := ⟨rfl, rfl, rfl, by decide +kernel, rfl, by decide +kernel, by decide +kernel⟩
abbrev N_grown : List Str := ["_law_pieces", "_law_most", "_law_found", "_law_waiting", "_law_log", "_law_piece", "_law_at", "_law_later"]
theorem sc_grown : FnScope N_grown ["_law_pieces", "_law_most"] (defScope s_grown) := ⟨rfl, rfl, rfl, by decide +kernel, rfl, by decide +kernel, by decide +kernel⟩
abbrev N_beside : List Str := ["_law_bag_here", "_law_pieces", "_law_found", "_law_turn", "_law_log", "_law_step", "_law_at", "_law_row"]
theorem sc_beside : FnScope N_beside ["_law_bag_here", "_law_pieces"] (defScope s_beside) := ⟨rfl, rfl, rfl, by decide +kernel, rfl, by decide +kernel, by decide +kernel⟩
abbrev N_needless : List Str := ["_law_pieces", "_law_found", "_law_number", "_law_piece"]
theorem sc_needless : FnScope N_needless ["_law_pieces"] (defScope s_needless) := ⟨rfl, rfl, rfl, by decide +kernel, rfl, by decide +kernel, by decide +kernel⟩
abbrev N_parting : List Str := ["_law_pieces", "_law_others", "_law_some_here", "_law_piece"]
theorem sc_parting : FnScope N_parting ["_law_pieces", "_law_others"] (defScope s_parting) := ⟨rfl, rfl, rfl, by decide +kernel, rfl, by decide +kernel, by decide +kernel⟩
abbrev N_first_apart : List Str := ["_law_pieces", "_law_others", "_law_most", "_law_one", "_law_other_here", "_law_some_here", "_law_log"]
theorem sc_first_apart : FnScope N_first_apart ["_law_pieces", "_law_others", "_law_most"] (defScope s_first_apart) := ⟨rfl, rfl, rfl, by decide +kernel, rfl, by decide +kernel, by decide +kernel⟩
abbrev N_other : List Str := ["_law_bag_here", "_law_pieces", "_law_kind", "_law_at", "_law_piece"]
theorem sc_other : FnScope N_other ["_law_bag_here", "_law_pieces"] (defScope s_other) := ⟨rfl, rfl, rfl, by decide +kernel, rfl, by decide +kernel, by decide +kernel⟩
abbrev N_flag : List Str := ["_law_told", "_law_due"]
theorem sc_flag : FnScope N_flag ["_law_told", "_law_due"] (defScope s_flag) := ⟨rfl, rfl, rfl, by decide +kernel, rfl, by decide +kernel, by decide +kernel⟩
abbrev N_law : List Str := ["_law_script", "_law_bag_here", "_law_turn", "_law_pieces", "_law_others", "_law_book", "_law_other_here", "_law_lot", "_law_kept", "_law_due", "_law_flags", "_law_most", "_law_first", "_law_number", "_law_piece"]
theorem sc_law : FnScope N_law ["_law_script"] (defScope s_law) := ⟨rfl, rfl, rfl, by decide +kernel, rfl, by decide +kernel, by decide +kernel⟩
/-- what the top has left -/
structure Txt (P : Program) (K : PySem.W.Frag) (mg : Str → Option Value) where
  a_q_is_log : Addr
  fd_q_is_log : FuncData
  F_q_is_log : Fun K "is_log" "is_log" s_q_is_log a_q_is_log fd_q_is_log
  b_q_is_log : Binds K fd_q_is_log ["thing"] []
  g_q_is_log : mg "is_log" = some (.ref a_q_is_log)
  a_is_piece : Addr
  fd_is_piece : FuncData
  F_is_piece : Fun K "is_piece" "is_piece" s_is_piece a_is_piece fd_is_piece
  b_is_piece : Binds K fd_is_piece ["thing"] []
  g_is_piece : mg "is_piece" = some (.ref a_is_piece)
  a_Book_init : Addr
  fd_Book_init : FuncData
  F_Book_init : Fun K "__init__" "Book.__init__" s_Book_init a_Book_init fd_Book_init
  b_Book_init : Binds K fd_Book_init ["self", "pieces"] []
  a_Book_eq : Addr
  fd_Book_eq : FuncData
  F_Book_eq : Fun K "__eq__" "Book.__eq__" s_Book_eq a_Book_eq fd_Book_eq
  b_Book_eq : Binds K fd_Book_eq ["self", "other"] []
  a_q_idle_ends : Addr
  fd_q_idle_ends : FuncData
  F_q_idle_ends : Fun K "idle_ends" "idle_ends" s_q_idle_ends a_q_idle_ends fd_q_idle_ends
  b_q_idle_ends : Binds K fd_q_idle_ends ["book", "log"] []
  g_q_idle_ends : mg "idle_ends" = some (.ref a_q_idle_ends)
  a_raw_is_idle : Addr
  fd_raw_is_idle : FuncData
  F_raw_is_idle : Fun K "raw_is_idle" "raw_is_idle" s_raw_is_idle a_raw_is_idle fd_raw_is_idle
  b_raw_is_idle : Binds K fd_raw_is_idle ["book", "log"] []
  g_raw_is_idle : mg "raw_is_idle" = some (.ref a_raw_is_idle)
  a_is_needless : Addr
  fd_is_needless : FuncData
  F_is_needless : Fun K "is_needless" "is_needless" s_is_needless a_is_needless fd_is_needless
  b_is_needless : Binds K fd_is_needless ["book", "number"] []
  g_is_needless : mg "is_needless" = some (.ref a_is_needless)
  a_q_needless : Addr
  fd_q_needless : FuncData
  F_q_needless : Fun K "needless" "needless" s_q_needless a_q_needless fd_q_needless
  b_q_needless : Binds K fd_q_needless ["book"] []
  g_q_needless : mg "needless" = some (.ref a_q_needless)
  a_base : Addr
  fd_base : FuncData
  F_base : Fun K "base" "base" s_base a_base fd_base
  b_base : Binds K fd_base ["book"] []
  g_base : mg "base" = some (.ref a_base)
  a_q_parting : Addr
  fd_q_parting : FuncData
  F_q_parting : Fun K "parting" "parting" s_q_parting a_q_parting fd_q_parting
  b_q_parting : Binds K fd_q_parting ["book", "other"] []
  g_q_parting : mg "parting" = some (.ref a_q_parting)
  a_is_held : Addr
  fd_is_held : FuncData
  F_is_held : Fun K "is_held" "is_held" s_is_held a_is_held fd_is_held
  b_is_held : Binds K fd_is_held ["book", "other"] []
  g_is_held : mg "is_held" = some (.ref a_is_held)
  a_bag : Addr
  fd_bag : FuncData
  F_bag : Fun K "_law_bag" "_law_bag" s_bag a_bag fd_bag
  b_bag : Binds K fd_bag ["_law_script"] []
  g_bag : mg "_law_bag" = some (.ref a_bag)
  a_pick : Addr
  fd_pick : FuncData
  F_pick : Fun K "_law_pick" "_law_pick" s_pick a_pick fd_pick
  b_pick : Binds K fd_pick ["_law_bag_here", "_law_many"] []
  g_pick : mg "_law_pick" = some (.ref a_pick)
  a_some : Addr
  fd_some : FuncData
  F_some : Fun K "_law_some" "_law_some" s_some a_some fd_some
  b_some : Binds K fd_some ["_law_bag_here", "_law_things"] []
  g_some : mg "_law_some" = some (.ref a_some)
  a_own : Addr
  fd_own : FuncData
  F_own : Fun K "_law_own" "_law_own" s_own a_own fd_own
  b_own : Binds K fd_own ["_law_pieces"] []
  g_own : mg "_law_own" = some (.ref a_own)
  a_named : Addr
  fd_named : FuncData
  F_named : Fun K "_law_named" "_law_named" s_named a_named fd_named
  b_named : Binds K fd_named ["_law_bag_here", "_law_pieces"] []
  g_named : mg "_law_named" = some (.ref a_named)
  a_more : Addr
  fd_more : FuncData
  F_more : Fun K "_law_more" "_law_more" s_more a_more fd_more
  b_more : Binds K fd_more ["_law_bag_here", "_law_pieces", "_law_most"] []
  g_more : mg "_law_more" = some (.ref a_more)
  a_full : Addr
  fd_full : FuncData
  F_full : Fun K "_law_full" "_law_full" s_full a_full fd_full
  b_full : Binds K fd_full ["_law_bag_here"] []
  g_full : mg "_law_full" = some (.ref a_full)
  a_scant : Addr
  fd_scant : FuncData
  F_scant : Fun K "_law_scant" "_law_scant" s_scant a_scant fd_scant
  b_scant : Binds K fd_scant ["_law_bag_here"] []
  g_scant : mg "_law_scant" = some (.ref a_scant)
  a_idle_ends : Addr
  fd_idle_ends : FuncData
  F_idle_ends : Fun K "_law_idle_ends" "_law_idle_ends" s_idle_ends a_idle_ends fd_idle_ends
  b_idle_ends : Binds K fd_idle_ends ["_law_pieces", "_law_log"] []
  g_idle_ends : mg "_law_idle_ends" = some (.ref a_idle_ends)
  a_is_stretch : Addr
  fd_is_stretch : FuncData
  F_is_stretch : Fun K "_law_is_stretch" "_law_is_stretch" s_is_stretch a_is_stretch fd_is_stretch
  b_is_stretch : Binds K fd_is_stretch ["_law_pieces", "_law_log", "_law_is_idle_here", "_law_begin", "_law_end"] []
  g_is_stretch : mg "_law_is_stretch" = some (.ref a_is_stretch)
  a_is_idle : Addr
  fd_is_idle : FuncData
  F_is_idle : Fun K "_law_is_idle" "_law_is_idle" s_is_idle a_is_idle fd_is_idle
  b_is_idle : Binds K fd_is_idle ["_law_pieces", "_law_log"] []
  g_is_idle : mg "_law_is_idle" = some (.ref a_is_idle)
  a_grown : Addr
  fd_grown : FuncData
  F_grown : Fun K "_law_grown" "_law_grown" s_grown a_grown fd_grown
  b_grown : Binds K fd_grown ["_law_pieces", "_law_most"] []
  g_grown : mg "_law_grown" = some (.ref a_grown)
  a_beside : Addr
  fd_beside : FuncData
  F_beside : Fun K "_law_beside" "_law_beside" s_beside a_beside fd_beside
  b_beside : Binds K fd_beside ["_law_bag_here", "_law_pieces"] []
  g_beside : mg "_law_beside" = some (.ref a_beside)
  a_needless : Addr
  fd_needless : FuncData
  F_needless : Fun K "_law_needless" "_law_needless" s_needless a_needless fd_needless
  b_needless : Binds K fd_needless ["_law_pieces"] []
  g_needless : mg "_law_needless" = some (.ref a_needless)
  a_parting : Addr
  fd_parting : FuncData
  F_parting : Fun K "_law_parting" "_law_parting" s_parting a_parting fd_parting
  b_parting : Binds K fd_parting ["_law_pieces", "_law_others"] []
  g_parting : mg "_law_parting" = some (.ref a_parting)
  a_first_apart : Addr
  fd_first_apart : FuncData
  F_first_apart : Fun K "_law_first_apart" "_law_first_apart" s_first_apart a_first_apart fd_first_apart
  b_first_apart : Binds K fd_first_apart ["_law_pieces", "_law_others", "_law_most"] []
  g_first_apart : mg "_law_first_apart" = some (.ref a_first_apart)
  a_other : Addr
  fd_other : FuncData
  F_other : Fun K "_law_other" "_law_other" s_other a_other fd_other
  b_other : Binds K fd_other ["_law_bag_here", "_law_pieces"] []
  g_other : mg "_law_other" = some (.ref a_other)
  a_flag : Addr
  fd_flag : FuncData
  F_flag : Fun K "_law_flag" "_law_flag" s_flag a_flag fd_flag
  b_flag : Binds K fd_flag ["_law_told", "_law_due"] []
  g_flag : mg "_law_flag" = some (.ref a_flag)
  a_law : Addr
  fd_law : FuncData
  F_law : Fun K "law" "law" s_law a_law fd_law
  b_law : Binds K fd_law ["_law_script"] []
  g_law : mg "law" = some (.ref a_law)
  C_LogError : Addr
  g_LogError : mg "LogError" = some (.ref C_LogError)
  xc_LogError : OexC K C_LogError
  ic_LogError : ExcC K C_LogError
  bx_LogError : PySem.W.subIn K (.ref C_LogError) (.type "BaseException") = some true
  tx_LogError : PySem.W.typeIn K (.ref C_LogError) = some (.type "type")
  k_LogError : PySem.W.excIn K C_LogError [.type "ValueError", .type "Exception", .type "BaseException", .type "object"] "ValueError.__new__" = true
  kp_LogError : PySem.W.keepIn K (.ref C_LogError) = true
  C_BadBook : Addr
  g_BadBook : mg "BadBook" = some (.ref C_BadBook)
  xc_BadBook : OexC K C_BadBook
  ic_BadBook : ExcC K C_BadBook
  bx_BadBook : PySem.W.subIn K (.ref C_BadBook) (.type "BaseException") = some true
  tx_BadBook : PySem.W.typeIn K (.ref C_BadBook) = some (.type "type")
  a_BadBook_init : Addr
  fd_BadBook_init : FuncData
  S_BadBook_init : SPX.SiC P K mg s_BadBook_init "BadBook.__init__" "part" "part" C_BadBook a_BadBook_init fd_BadBook_init
  b_BadBook_init : Binds K fd_BadBook_init ["self", "part"] []
  fi_BadBook : PySem.W.findIn K (.ref C_BadBook) "part" = some none
  ii_BadBook : PySem.W.findIn K (.ref C_BadBook) "__init__" = some (some (.ref a_BadBook_init))
  ti_BadBook : PySem.W.typeIn K (.ref a_BadBook_init) = some (.type "function")
  C_Book : Addr
  g_Book : mg "Book" = some (.ref C_Book)
  cl_Book : Cls K C_Book
  M_Book : Mk K C_Book a_Book_init
  eqc_Book : NR.EqC K C_Book a_Book_eq
  nf_Book : (["tuple", "int", "str", "list", "bool", "NoneType", "dict"].all fun t => PySem.W.notFirst K C_Book (.type t)) = true
  ty_Book : PySem.W.findIn K (.ref C_Book) "__class__" = some (some (.builtin "object.__class__")) ∧ PySem.W.specialIn K (.builtin "object.__class__") "__get__" = some (some (.builtin "getset_descriptor.__get__")) ∧ PySem.W.takesIn K (.builtin "object.__class__") = some true ∧ PySem.W.mroIn K C_Book (.type "object") = some true
  kc_Book : (["tuple", "int", "str", "list", "bool", "NoneType", "dict"].all fun t => PySem.W.kitOne K (.type t) (.ref C_Book) == some false) = true
  no_Book_pieces : NoAttr K C_Book "pieces"
  cc_q_parting : Addr
  cp_q_parting : Addr
  ce_q_parting : fd_q_parting.code = .ref cc_q_parting
  cd : [cp_q_parting].Nodup
  g_LETTERS : ∃ t, mg "LETTERS" = some (.str "abcdefgh" t)
  g_MOST_PIECES : ∃ t, mg "MOST_PIECES" = some (.int 12 t)
  g_MOST_LONG : ∃ t, mg "MOST_LONG" = some (.int 8 t)
  m_abs : mg "abs" = none
  m_all : mg "all" = none
  m_any : mg "any" = none
  m_bool : mg "bool" = none
  m_enumerate : mg "enumerate" = none
  m_int : mg "int" = none
  m_isinstance : mg "isinstance" = none
  m_len : mg "len" = none
  m_list : mg "list" = none
  m_min : mg "min" = none
  m_range : mg "range" = none
  m_set : mg "set" = none
  m_sorted : mg "sorted" = none
  m_str : mg "str" = none
  m_sum : mg "sum" = none
  m_super : mg "super" = none
  m_tuple : mg "tuple" = none
/-- the code objects of the defs that make lambdas, and their tables -/
abbrev Txt.cs {P : Program} {K : PySem.W.Frag} {mg : Str → Option Value} (T : Txt P K mg) : List (Addr × Addr) := [(T.cc_q_parting, T.cp_q_parting)]
abbrev Txt.tabs {P : Program} {K : PySem.W.Frag} {mg : Str → Option Value} (T : Txt P K mg) : List (Addr × Str) := [(T.cp_q_parting, "parting.<locals>.<lambda>")]
theorem Txt.tabs0 {P : Program} {K : PySem.W.Frag} {mg : Str → Option Value} (T : Txt P K mg) {H : Hp} (h : ∀ p ∈ T.cs, H p.2 = some (.tbl #[])) : LamX.Tabs T.tabs H := fun p hp => by
  simp only [List.mem_cons, List.not_mem_nil, or_false] at hp
  rcases hp with rfl
  · exact LamX.TabS.nil (h (T.cc_q_parting, T.cp_q_parting) (.head _))
theorem Txt.tm_q_parting {P : Program} {K : PySem.W.Frag} {mg : Str → Option Value} (T : Txt P K mg) : (T.cp_q_parting, ("parting.<locals>.<lambda>" : Str)) ∈ T.tabs := .head _
theorem Txt.tb_q_parting {P : Program} {K : PySem.W.Frag} {mg : Str → Option Value} (T : Txt P K mg) {base : Heap} (TB : ∀ p ∈ T.cs, LamX.TabB base mg p.1 p.2) : LamX.TabB base mg T.cc_q_parting T.cp_q_parting := TB (T.cc_q_parting, T.cp_q_parting) (.head _)
theorem Txt.tu_q_parting {P : Program} {K : PySem.W.Frag} {mg : Str → Option Value} (T : Txt P K mg) : ∀ p ∈ T.tabs, p.1 = T.cp_q_parting → p.2 = ("parting.<locals>.<lambda>" : Str) := fun p hp e => by
  have cd := T.cd
  simp only [List.mem_cons, List.not_mem_nil, or_false, List.nodup_cons, not_or, List.nodup_nil, not_false_eq_true, and_true] at hp cd
  rcases hp with rfl
  · rfl

local macro_rules | `(tactic| walk_at "kd") => `(tactic| first | assumption | exact SPD.KdOf.int _ | exact SPD.KdOf.str _ | exact SPD.KdOf.bl _ | exact SPD.KdOf.non | exact SPD.KdOf.same (by assumption) (by walk_at "kd") | exact SPD.KdOf.tup (by walk_at "hp") | exact SPD.KdOf.lst (by walk_at "hp") | fail "no")
local macro_rules | `(tactic| walk_at "ne") => `(tactic| first | assumption | exact Ne.symm (by assumption) | fail "no")
local macro_rules | `(tactic| walk_at "hp") => `(tactic| first | assumption | exact RD.at_same (by assumption) (by walk_at "hp") | exact RD.at_kb (by assumption) (by walk_at "ne") (by walk_at "hp") | fail "no")
local macro_rules | `(tactic| walk_at "sq") => `(tactic| first | assumption | exact Or.inl (Or.inl (by walk_at "hp")) | exact Same.seq (by assumption) (by walk_at "sq") | exact RD.KB.seq (by assumption) (by walk_at "ne") (by walk_at "sq") | fail "no")
local macro_rules | `(tactic| walk_at "st") => `(tactic| first | assumption | exact Or.inl (Or.inl (by walk_at "hp")) | exact RD.Same.tup (by assumption) (by walk_at "st") | exact RD.KB.tup (by assumption) (by walk_at "ne") (by walk_at "st") | fail "no")
local macro_rules | `(tactic| walk_at "rd") => `(tactic| first
  | with_reducible refine RD.c ?_
  | ((with_reducible refine' RD.var ?rdE ?rdK); (case rdE => exact rfl))
  | with_reducible refine RD.op ?_
  | with_reducible refine RD.un ?_
  | with_reducible refine RD.nil ?_
  | with_reducible refine RD.cons ?_
  | with_reducible refine RD.cb ?_
  | with_reducible refine RD.call ?_
  | with_reducible refine RD.test ?_
  | with_reducible refine RD.tb' ?_
  | with_reducible refine RD.bl ?_
  | with_reducible refine RD.and' ?_
  | with_reducible refine RD.or' ?_
  | with_reducible refine RD.not' ?_
  | with_reducible refine RD.andV ?_
  | with_reducible refine RD.orV ?_
  | with_reducible refine RD.notV ?_
  | with_reducible refine RD.ife ?_
  | with_reducible refine RD.sl ?_
  | with_reducible refine RD.part ?_
  | with_reducible refine RD.noPart ?_
  | with_reducible refine RD.partI ?_
  | with_reducible refine RD.rd0 ?_
  | with_reducible refine RD.rdU ?_
  | ((with_reducible refine' RD.rdEq ?rdE ?rdK); (case rdE => rfl))
  | ((with_reducible refine' RD.rdNe ?rdE ?rdK); (case rdE => rfl))
  | ((with_reducible refine' RD.ixL ?rdH ?rdE ?rdK); (case rdH => walk_at "sq"); (case rdE => first | rfl | assumption))
  | ((with_reducible refine' RD.rdI ?rdC ?rdK); (case rdC => first | assumption | (show (0 : Int) < _; first | decide | omega) | exact ⟨by decide, by decide⟩ | exact ⟨by assumption, by assumption⟩ | exact .inr ⟨by decide, by decide⟩ | exact .inl ⟨by decide, by decide⟩ | exact ⟨by decide, by decide, by decide⟩ | exact .inl ⟨by omega, by omega⟩))
  | ((with_reducible refine' RD.setL ?rdH ?rdE ?rdK); (case rdH => walk_at "hp"); (case rdE => rfl); intro $(Lean.mkIdent `H'):ident $(Lean.mkIdent `hk):ident $(Lean.mkIdent `hv):ident)
  | ((with_reducible refine' RD.irng1V ?rdA ?rdB ?rdK); (case rdA => first | decide | omega); (case rdB => first | decide | omega))
  | with_reducible refine RD.int1 ?_
  | with_reducible refine RD.abs1 ?_
  | ((with_reducible refine' RD.len ?rdH ?rdK); (case rdH => first | exact Or.inl (by walk_at "sq") | exact Or.inr (by walk_at "st")))
  | with_reducible refine RD.tup ?_
  | with_reducible refine RD.lst ?_
  | with_reducible refine RD.ite1 ?_
  | with_reducible refine RD.ite0 ?_
  | with_reducible refine RD.ite1n ?_
  | with_reducible refine RD.ite0n ?_
  | with_reducible refine RD.seq ?_
  | with_reducible refine RD.asg ?_
  | with_reducible refine RD.name ?_
  | with_reducible refine RD.ret ?_
  | with_reducible refine RD.drop ?_
  | with_reducible refine RD.next ?_
  | with_reducible refine RD.ifs ?_
  | with_reducible refine RD.par ?_
  | with_reducible refine RD.par2 ?_
  | with_reducible refine RD.sub ?_
  | with_reducible refine RD.gcons ?_
  | with_reducible refine RD.gnil ?_
  | with_reducible refine RD.bm ?_
  | ((with_reducible refine' RD.bmL ?rdH ?rdK); (case rdH => walk_at "sq"))
  | ((with_reducible refine' RD.newZ ?rdH ?rdK); (case rdH => exact RD.sz _); intro $(Lean.mkIdent `p'):ident $(Lean.mkIdent `H'):ident $(Lean.mkIdent `hp):ident $(Lean.mkIdent `hs):ident $(Lean.mkIdent `hv):ident; (try have $(Lean.mkIdent `hn):ident := hand_ne $(Lean.mkIdent `hp):ident (by walk_at "hk")))
  | with_reducible refine RD.fors ?_
  | with_reducible refine RD.lc ?_
  | with_reducible refine RD.yes ?_
  | with_reducible refine RD.ilist ?_
  | ((with_reducible refine' RD.ilistV ?rdH ?rdK); (case rdH => walk_at "sq"))
  | with_reducible refine RD.itup ?_
  | ((with_reducible refine' RD.itupV ?rdH ?rdK); (case rdH => walk_at "st"))
  | with_reducible refine RD.irng1 ?_
  | with_reducible refine RD.irng2 ?_
  | ((with_reducible refine' RD.irng2V ?rdA ?rdK); (case rdA => first | decide | omega))
  | with_reducible refine RD.ienum ?_
  | ((with_reducible refine' RD.ienumV ?rdH ?rdK); (case rdH => walk_at "sq"))
  | with_reducible refine RD.izip ?_
  | ((with_reducible refine' RD.izipV ?rdH ?rdE ?rdK); (case rdH => walk_at "sq"); (case rdE => walk_at "sq"))
  | with_reducible refine SPD.izipA ?_
  | with_reducible refine RD.istr ?_
  | with_reducible refine RD.istrV ?_
  | ((with_reducible refine' RD.slL ?rdH ?rdK); (case rdH => walk_at "sq"); intro $(Lean.mkIdent `p'):ident $(Lean.mkIdent `H'):ident $(Lean.mkIdent `hp):ident $(Lean.mkIdent `hs):ident $(Lean.mkIdent `hv):ident; (try have $(Lean.mkIdent `hn):ident := hand_ne $(Lean.mkIdent `hp):ident (by walk_at "hk")))
  | ((with_reducible refine' RD.cat ?rdH ?rdE ?rdZ ?rdK); (case rdH => walk_at "hp"); (case rdE => walk_at "hp"); (case rdZ => exact RD.sz _); intro $(Lean.mkIdent `p'):ident $(Lean.mkIdent `H'):ident $(Lean.mkIdent `hp):ident $(Lean.mkIdent `hs):ident $(Lean.mkIdent `hv):ident; (try have $(Lean.mkIdent `hn):ident := hand_ne $(Lean.mkIdent `hp):ident (by walk_at "hk")))
  | ((with_reducible refine' RD.gtup ?rdH ?rdE ?rdK); (case rdH => walk_at "st"); (case rdE => rfl))
  | ((with_reducible refine' RD.app ?rdH ?rdZ ?rdK); (case rdH => walk_at "hp"); (case rdZ => first | assumption | (apply RD.szl; omega)); intro $(Lean.mkIdent `H'):ident $(Lean.mkIdent `hk):ident $(Lean.mkIdent `hv):ident)
  | ((with_reducible refine' RD.all1 ?rdH ?rdK); (case rdH => walk_at "sq"))
  | ((with_reducible refine' RD.any1 ?rdH ?rdK); (case rdH => walk_at "sq"))
  | ((with_reducible refine' SPD.dnew ?rdK); intro $(Lean.mkIdent `p'):ident $(Lean.mkIdent `H'):ident $(Lean.mkIdent `hp):ident $(Lean.mkIdent `hs):ident $(Lean.mkIdent `hv):ident; (try have $(Lean.mkIdent `hn):ident := hand_ne $(Lean.mkIdent `hp):ident (by walk_at "hk")))
  | ((with_reducible refine' SPD.disp1 ?rdK); intro $(Lean.mkIdent `p'):ident $(Lean.mkIdent `H'):ident $(Lean.mkIdent `hp):ident $(Lean.mkIdent `hs):ident $(Lean.mkIdent `hv):ident; (try have $(Lean.mkIdent `hn):ident := hand_ne $(Lean.mkIdent `hp):ident (by walk_at "hk")))
  | ((with_reducible refine' SPD.isSeq ?rdH ?rdE ?rdK); (case rdH => walk_at "hp"); (case rdE => walk_at "kd"))
  | ((with_reducible refine' SPD.isTup ?rdE ?rdK); (case rdE => walk_at "kd"))
  | ((with_reducible refine' SPD.isLst ?rdE ?rdK); (case rdE => walk_at "kd"))
  | ((with_reducible refine' SPD.isBool ?rdE ?rdK); (case rdE => walk_at "kd"))
  | ((with_reducible refine' SPD.isStr ?rdE ?rdK); (case rdE => walk_at "kd"))
  | ((with_reducible refine' SPD.isInt ?rdE ?rdK); (case rdE => walk_at "kd"))
  | dsimp only)
local macro_rules | `(tactic| walk_at "rds") => `(tactic| repeat walk_at "rd")
local macro_rules | `(tactic| walk_at "sm") => `(tactic| first | assumption | exact Same.refl _ | exact RD.sm_tr (by assumption) (by walk_at "sm") | fail "no")
local macro_rules | `(tactic| walk_at "kb") => `(tactic| first | assumption | exact RD.KB.refl | exact RD.kb_tr (by assumption) (by walk_at "kb") | exact RD.kb_trs (by assumption) (by walk_at "kb") | fail "no")
local macro_rules | `(tactic| walk_at "fr") => `(tactic| first | assumption | exact RD.fr_of (by assumption) (by walk_at "sm") | fail "no")
local macro_rules | `(tactic| walk_at "hk") => `(tactic| first | assumption | exact hand_same (by assumption) (by walk_at "hk") | exact hand_kb (by assumption) (by walk_at "fr") (by walk_at "hk") | fail "no")
local macro_rules | `(tactic| walk_at "na") => `(tactic| first | assumption | exact hand_ne (by assumption) (by walk_at "hk") | fail "no")
local macro_rules | `(tactic| walk_at "dqa") => `(tactic| first | exact SPD.DqA.nil | exact SPD.DqA.cons (by walk_at "dq") (by walk_at "dqa") | exact SPD.DqA.app (by walk_at "dqa") (by walk_at "dqa") | fail "no")
local macro_rules | `(tactic| walk_at "dq") => `(tactic| first | assumption | exact SPD.Dq.leaf rfl | exact SPD.dq_kb (by assumption) (by walk_at "kb") | exact SPD.dqTup (by walk_at "hp") (by walk_at "na") (by walk_at "dqa") | exact SPD.dqLst (by walk_at "hp") (by walk_at "na") (by walk_at "dqa") | exact SPD.dqNil (by walk_at "hp") (by walk_at "na") (by first | decide | simp) (by first | decide | simp) | fail "no")

local macro_rules | `(tactic| walk_at "rd") => `(tactic| first
  | with_reducible refine RB.chain ?_
  | with_reducible refine RB.m1 ?_
  | with_reducible refine RB.strE ?_
  | with_reducible refine RB.fld ?_
  | with_reducible refine RB.setF ?_
  | with_reducible refine RB.ss ?_
  | with_reducible refine RB.rev ?_
  | with_reducible refine RB.make ?_
  | with_reducible refine RB.makeS ?_
  | with_reducible refine RB.mkO ?_
  | with_reducible refine NR.ienumT ?_
  | with_reducible refine RB.inS ?_
  | with_reducible refine RB.bmS ?_
  | with_reducible refine RB.callS ?_
  | with_reducible refine RB.sw3 ?_
  | with_reducible refine RB.par3 ?_
  | with_reducible refine RB.par3V ?_
  | ((with_reducible refine' RB.slS ?rdH ?rdK); (case rdH => walk_at "sz"))
  | with_reducible refine RB.xf ?_
  | ((with_reducible refine' RB.xfV ?rdH ?rdE ?rdK); (case rdH => walk_at "hp"); (case rdE => rfl))
  | ((with_reducible refine' NR.ienumTV ?rdH ?rdK); (case rdH => walk_at "st"))
  | ((with_reducible refine' RB.lenL ?rdH ?rdK); (case rdH => walk_at "sq"))
  | ((with_reducible refine' RB.lenT ?rdH ?rdK); (case rdH => walk_at "st"))
  | ((with_reducible refine' RB.lenS ?rdH ?rdK); (case rdH => walk_at "sz"))
  | ((with_reducible refine' RD.lenS ?rdH ?rdK); (case rdH => walk_at "sz"))
  | ((with_reducible refine' RB.slT ?rdH ?rdK); (case rdH => walk_at "hp"); intro $(Lean.mkIdent `p'):ident $(Lean.mkIdent `H'):ident $(Lean.mkIdent `hs):ident $(Lean.mkIdent `hv):ident $(Lean.mkIdent `hp):ident; (try have $(Lean.mkIdent `hn):ident := two_ne $(Lean.mkIdent `hp):ident (by walk_at "na") (by walk_at "hk")))
  | ((with_reducible refine' RB.revV ?rdH ?rdK); (case rdH => walk_at "st"); intro $(Lean.mkIdent `p'):ident $(Lean.mkIdent `H'):ident $(Lean.mkIdent `hp):ident $(Lean.mkIdent `hs):ident $(Lean.mkIdent `hv):ident; (try have $(Lean.mkIdent `hn):ident := hand_ne $(Lean.mkIdent `hp):ident (by walk_at "hk")))
  | ((with_reducible refine' RB.listS ?rdH ?rdK); (case rdH => walk_at "sz"); intro $(Lean.mkIdent `p'):ident $(Lean.mkIdent `H'):ident $(Lean.mkIdent `hp):ident $(Lean.mkIdent `hs):ident $(Lean.mkIdent `hv):ident; (try have $(Lean.mkIdent `hn):ident := hand_ne $(Lean.mkIdent `hp):ident (by walk_at "hk")))
  | ((with_reducible refine' RB.listO ?rdH ?rdK); (case rdH => first | exact Or.inl (by walk_at "sq") | exact Or.inr (by walk_at "st")); intro $(Lean.mkIdent `p'):ident $(Lean.mkIdent `H'):ident $(Lean.mkIdent `hp):ident $(Lean.mkIdent `hs):ident $(Lean.mkIdent `hv):ident; (try have $(Lean.mkIdent `hn):ident := hand_ne $(Lean.mkIdent `hp):ident (by walk_at "hk")))
  | ((with_reducible refine' RB.tupL ?rdH ?rdK); (case rdH => walk_at "sq"); intro $(Lean.mkIdent `p'):ident $(Lean.mkIdent `H'):ident $(Lean.mkIdent `hp):ident $(Lean.mkIdent `hs):ident $(Lean.mkIdent `hv):ident; (try have $(Lean.mkIdent `hn):ident := hand_ne $(Lean.mkIdent `hp):ident (by walk_at "hk")))
  | ((with_reducible refine' RB.catT ?rdH ?rdE ?rdZ ?rdK); (case rdH => walk_at "hp"); (case rdE => walk_at "hp"); (case rdZ => exact RB.LN.sum (by walk_at "ln") (by walk_at "ln") rfl); intro $(Lean.mkIdent `p'):ident $(Lean.mkIdent `H'):ident $(Lean.mkIdent `hs):ident $(Lean.mkIdent `hv):ident $(Lean.mkIdent `hp):ident; (try have $(Lean.mkIdent `hn):ident := three_ne $(Lean.mkIdent `hp):ident (by walk_at "na") (by walk_at "na") (by walk_at "hk")))
  | fail "no")
local macro_rules | `(tactic| walk_at "ln") => `(tactic| first | with_reducible assumption | exact RB.LN.cut (by walk_at "ln") | exact RB.LN.app (by walk_at "ln") (by walk_at "ln") | exact RB.LN.rev (by walk_at "ln") | exact RB.LN.rep (by walk_at "ln") | exact RB.LN.lit rfl | fail "no")
local macro_rules | `(tactic| walk_at "sz") => `(tactic| first | assumption | exact RD.sz _ | fail "no")

local macro_rules | `(tactic| walk_at "hp") => `(tactic| first | assumption | exact RD.at_same (by assumption) (by walk_at "hp") | exact SPE.at_kx (by assumption) (by walk_at "na") (by walk_at "hp") | exact RD.at_kb (by assumption) (by walk_at "ne") (by walk_at "hp") | fail "no")
local macro_rules | `(tactic| walk_at "sq") => `(tactic| first | assumption | exact Or.inl (Or.inl (by walk_at "hp")) | exact Same.seq (by assumption) (by walk_at "sq") | exact SPE.KX.seq (by assumption) (by walk_at "na") (by walk_at "sq") | exact RD.KB.seq (by assumption) (by walk_at "ne") (by walk_at "sq") | fail "no")
local macro_rules | `(tactic| walk_at "st") => `(tactic| first | assumption | exact Or.inl (Or.inl (by walk_at "hp")) | exact RD.Same.tup (by assumption) (by walk_at "st") | exact SPE.KX.tup (by assumption) (by walk_at "na") (by walk_at "st") | exact RD.KB.tup (by assumption) (by walk_at "ne") (by walk_at "st") | fail "no")
local macro_rules | `(tactic| walk_at "kx") => `(tactic| first | assumption | exact SPE.KX.refl | exact SPE.kx_tr (by assumption) (by walk_at "kx") | exact SPE.kx_trs (by assumption) (by walk_at "kx") | fail "no")
local macro_rules | `(tactic| walk_at "dqa") => `(tactic| first | exact SPE.DqA.nil | exact SPE.DqA.cons (by walk_at "dq") (by walk_at "dqa") | exact SPE.DqA.app (by walk_at "dqa") (by walk_at "dqa") | fail "no")
local macro_rules | `(tactic| walk_at "dq") => `(tactic| first | assumption | exact SPE.Dq.leaf rfl | exact SPE.dq_kx (by assumption) (by walk_at "kx") | exact SPE.dqTup (by walk_at "hp") (by walk_at "na") (by walk_at "dqa") | exact SPE.dqLst (by walk_at "hp") (by walk_at "na") (by walk_at "dqa") | exact SPE.dqNil (by walk_at "hp") (by walk_at "na") (by first | decide | simp) (by first | decide | simp) | fail "no")
local macro_rules | `(tactic| walk_at "dqx") => `(tactic| first | exact $(Lean.mkIdent `hdb):ident _ (by walk_at "kx") | exact SPE.DqA.cons (SPE.dq_kx (by assumption) (by walk_at "kx")) SPE.DqA.nil | exact SPE.DqA.cons (SPE.Dq.leaf rfl) SPE.DqA.nil | exact SPE.DqA.nil | (with_reducible refine SPE.dqa_cut ?_; walk_at "dqx") | (with_reducible refine SPE.dqa_rev ?_; walk_at "dqx") | (with_reducible refine SPE.DqA.app ?_ ?_ <;> walk_at "dqx") | fail "no")
local macro_rules | `(tactic| walk_at "dqz") => `(tactic| first | exact SPE.dqTupN (by walk_at "hp") (by walk_at "na") (by walk_at "dqx") (by walk_at "ln") rfl | exact SPE.dqLstN (by walk_at "hp") (by walk_at "na") (by walk_at "dqx") (by walk_at "ln") rfl | fail "no")
local macro_rules | `(tactic| walk_at "rd") => `(tactic| first
  | with_reducible refine SPE.revs ?_
  | ((with_reducible refine' SPE.revsV ?rdH ?rdK); (case rdH => walk_at "sz"))
  | ((with_reducible refine' SPE.sum1 ?rdH ?rdK); (case rdH => walk_at "sq"))
  | fail "no")

/-! ### the bag, the picks -/
def BagOk (H : Hp) (x : SPE.AX) : Prop := ∃ (cells : List Int) (sd n : Int) (al : V), H x.1 = some (.lst [.int sd, .int n, .ref x.2, al]) ∧ H x.2 = some (.lst (cells.map V.int)) ∧ x.2 ≠ x.1 ∧ (al = .non ∨ ∃ m, al = .int m)
theorem BagOk.same {H H' : Hp} {x : SPE.AX} (h : BagOk H x) (s : Same H H') : BagOk H' x := by
  obtain ⟨cells, sd, n, al, ha, hc, ne, hl⟩ := h
  exact ⟨cells, sd, n, al, s _ _ ha, s _ _ hc, ne, hl⟩
theorem BagOk.off {H : Hp} {x : SPE.AX} {p : Addr} (n : H p = none) (h : BagOk H x) : SPE.Off p x := by
  obtain ⟨cells, sd, k, al, ha, hc, ne, hl⟩ := h
  exact ⟨(ne_of_none ha n).symm, (ne_of_none hc n).symm⟩
theorem BagOk.mut {H H' : Hp} {x : SPE.AX} {D : Addr} (k : RD.KB D H H') (o : SPE.Off D x) (h : BagOk H x) : BagOk H' x := by
  obtain ⟨cells, sd, n, al, ha, hc, ne, hl⟩ := h
  exact ⟨cells, sd, n, al, k _ _ o.1.symm ha, k _ _ o.2.symm hc, ne, hl⟩
theorem BagOk.tupOff {H : Hp} {x : SPE.AX} {p : Addr} {xs : List V} (e : H p = some (.tup xs)) (h : BagOk H x) : SPE.Off p x := by
  obtain ⟨cells, sd, n, al, ha, hc, ne, hl⟩ := h
  exact ⟨fun z => (by rw [← z, e] at ha; cases ha), fun z => (by rw [← z, e] at hc; cases hc)⟩
theorem hand_same {H H' : Hp} {x : SPE.AX} (s : Same H H') (h : BagOk H x) : BagOk H' x := h.same s
theorem hand_kb {H H' : Hp} {x : SPE.AX} {p : Addr} (k : RD.KB p H H') (n : H p = none) (h : BagOk H x) : BagOk H' x := h.same fun b o e => k b o (ne_of_none e n) e
theorem hand_ne {H : Hp} {x : SPE.AX} {p : Addr} (n : H p = none) (h : BagOk H x) : SPE.Off p x := h.off n
theorem two_ne {H : Hp} {x : SPE.AX} {b p : Addr} (h : p = b ∨ H p = none) (hb : SPE.Off b x) (hh : BagOk H x) : SPE.Off p x := by
  rcases h with rfl | h
  · exact hb
  · exact hand_ne h hh
theorem three_ne {H : Hp} {x : SPE.AX} {b1 b2 p : Addr} (h : p = b1 ∨ p = b2 ∨ H p = none) (h1 : SPE.Off b1 x) (h2 : SPE.Off b2 x) (hh : BagOk H x) : SPE.Off p x := by
  rcases h with rfl | rfl | h
  · exact h1
  · exact h2
  · exact hand_ne h hh
def spBag (K : PySem.W.Frag) : Sp := fun vs H Q _ => ∃ (s : Addr) (ns : List Int), vs = [.ref s] ∧ SqL K H s (ns.map V.int) ∧ ns.length ≤ 63 ∧ ∀ x H', Same H H' → H x.1 = none → BagOk H' x → Q (.ref x.1) H'
def spPick : Sp := fun vs H Q _ => ∃ (x : SPE.AX) (m : Int), vs = [.ref x.1, .int m] ∧ BagOk H x ∧ 0 < m ∧ m < 1073741824 ∧ ∀ (r : Int) H', 0 ≤ r → r < m → SPE.KX x H H' → BagOk H' x → Q (.int r) H'
inductive Items (K : PySem.W.Frag) (H : Hp) (x : SPE.AX) : V → List V → Prop where
  | lst {p : Addr} {zs : List V} : SPE.Off p x → SqL K H p zs → Items K H x (.ref p) zs
  | tup {p : Addr} {zs : List V} : SPE.Off p x → SqT K H p zs → Items K H x (.ref p) zs
  | str {z : Str} : z.length ≤ sizeLine → Items K H x (.str z) (z.cps.toList.map fun c => .str ⟨#[c]⟩)
def spSome (K : PySem.W.Frag) : Sp := fun vs H Q _ => ∃ (x : SPE.AX) (y : V) (zs : List V), vs = [.ref x.1, y] ∧ BagOk H x ∧ Items K H x y zs ∧ 0 < zs.length ∧ zs.length < 1073741824 ∧ ∀ v H', v ∈ zs → SPE.KX x H H' → BagOk H' x → Q v H'
def spNested : Sp := fun vs H Q _ => vs = [] ∧ ∀ v H', Same H H' → (∀ x : SPE.AX, BagOk H x → SPE.Dq x H' 40 v) → Q v H'
theorem spPick.mk {x : SPE.AX} {m : Int} {H : Hp} {Q : VK} {E : XK} (h : BagOk H x) (h0 : 0 < m) (h1 : m < 1073741824) (q : ∀ (r : Int) H', 0 ≤ r → r < m → SPE.KX x H H' → BagOk H' x → Q (.int r) H') : spPick ([.ref x.1, .int m] ++ []) H Q E := ⟨x, m, rfl, h, h0, h1, q⟩
theorem spSome.mk {K : PySem.W.Frag} {x : SPE.AX} {y : V} {zs : List V} {H : Hp} {Q : VK} {E : XK} (h : BagOk H x) (hi : Items K H x y zs) (h0 : 0 < zs.length) (h1 : zs.length < 1073741824) (q : ∀ v H', v ∈ zs → SPE.KX x H H' → BagOk H' x → Q v H') : spSome K ([.ref x.1, y] ++ []) H Q E := ⟨x, y, zs, rfl, h, hi, h0, h1, q⟩
theorem spSome.dq {K : PySem.W.Frag} {x : SPE.AX} {p : Addr} {zs : List V} {n : Nat} {H : Hp} {Q : VK} {E : XK} (h : BagOk H x) (hp : H p = some (.lst zs)) (ne : SPE.Off p x) (hz : SPE.DqA x H n zs) (h0 : Nat.ble 1 zs.length = true) (h1 : Nat.ble zs.length 1000000 = true)
    (q : ∀ v H', SPE.KX x H H' → BagOk H' x → SPE.Dq x H' n v → Q v H') : spSome K ([.ref x.1, .ref p] ++ []) H Q E :=
  spSome.mk h (.lst ne (.inl (.inl hp))) (Nat.le_of_ble_eq_true h0) (Nat.lt_of_le_of_lt (Nat.le_of_ble_eq_true h1) (by decide)) fun v H' hm k hh => q v H' k hh ((hz.mem v hm).kx k)
section
variable {P : Program} {w : World} {K : PySem.W.Frag} {mg : Str → Option Value} {base : Heap}
theorem ok_bag (T : Txt P K mg) : FnOk P w K mg base CX0 1 T.a_bag T.fd_bag ["_law_script"] (spBag K) := by
  have nd := sc_bag.nd
  refine T.F_bag.ok sc_bag (fun vs H Q E h => ?_) (fun cdv A outer s H vs Q E hr h => ?_)
  · obtain ⟨a, ns, rfl, _⟩ := h
    rfl
  · obtain ⟨a, ns, rfl, hS, hlen, q⟩ := h
    refine ⟨_, (pss_cons (ps_set (i := 1) nd rfl (by first | exact Or.inl rfl | exact Or.inr rfl) (pe_op op_add pe_int (pe_callB call_len_seq (by rfl) T.m_len PySem.boot_len (pa_cons (pv 0) pa_nil))))
  (pss_cons (ps_for PassesOwn.never rfl (pi_list (pe_slice sl_list (pv 0) po_none (po_some pe_int))) (pg_name (i := 2) nd rfl (by first | exact Or.inl rfl | exact Or.inr rfl))
    (pss_one (ps_set (i := 1) nd rfl (by first | exact Or.inl rfl | exact Or.inr rfl) (pe_op op_mod (pe_callTy call_int1 (by rfl) T.m_int (by decide +kernel) (pa_cons (pe_op op_add (pe_op op_add (pe_op op_mul (pv 1) pe_int) (pe_op op_mod (pe_callTy call_int1 (by rfl) T.m_int (by decide +kernel) (pa_cons (pv 2) pa_nil)) pe_int)) pe_int) pa_nil)) pe_int))))
  (pss_cons (ps_setLc (i := 3) (own := [("_law_cell", 2)]) (g := (gName 2)) rfl nd rfl rfl (sw_true rfl rfl rfl (by decide +kernel)) (pi_list (pe_slice sl_list (pv 0) po_none (po_some pe_int))) (blkOk_by (own := [("_law_cell", 2)]) (N := N_bag) (sc := defScope s_bag) (by decide +kernel)) (fun _ _ _ _ _ => (pg_name (i := 2) nd rfl (Or.inl rfl))) (fun _ _ _ _ _ => (pts_one (pt_cmpR op_ge (pe_callB call_abs (by rfl) T.m_abs (by decide +kernel) (pa_cons (pe_callTy call_int1 (by rfl) T.m_int (by decide +kernel) (pa_cons (pv 2) pa_nil)) pa_nil)) (pe_op op_pow pe_int pe_int) (nomark _)))) (fun _ _ _ _ _ => (pe_callB call_abs (by rfl) T.m_abs (by decide +kernel) (pa_cons (pe_callTy call_int1 (by rfl) T.m_int (by decide +kernel) (pa_cons (pv 2) pa_nil)) pa_nil))))
  (pss_cons (ps_set (i := 4) nd rfl (by first | exact Or.inl rfl | exact Or.inr rfl) pe_non)
  (pss_cons (ps_if (PW.pt (pw_and (pt_cmpR op_lt (pe_callB call_len_seq (by rfl) T.m_len PySem.boot_len (pa_cons (pv 0) pa_nil)) pe_int (nomark _)) (pw_and1 (pt_cmpR op_eq (pe_callB call_len_seq (by rfl) T.m_len PySem.boot_len (pa_cons (pv 3) pa_nil)) pe_int (nomark _)))))
    (pss_one (ps_set (i := 4) nd rfl (by first | exact Or.inl rfl | exact Or.inr rfl) (pe_callB call_abs (by rfl) T.m_abs (by decide +kernel) (pa_cons (pe_callB (cr_sum rfl) (by rfl) T.m_sum (by decide +kernel) (pa_cons (pe_lc (own := [("_law_cell", 2)]) (g := (gName 2)) rfl nd (pi_list (pv 0)) (blkOk_by (own := [("_law_cell", 2)]) (N := N_bag) (sc := defScope s_bag) (by decide +kernel)) (fun _ _ _ _ _ => (pg_name (i := 2) nd rfl (Or.inl rfl))) (fun _ _ _ _ _ => pts_nil) (fun _ _ _ _ _ => (pe_callTy call_int1 (by rfl) T.m_int (by decide +kernel) (pa_cons (pv 2) pa_nil)))) pa_nil)) pa_nil))))
    pss_nil)
  (pss_one (ps_ret (pe_lst (pa_cons (pv 1) (pa_cons pe_int (pa_cons (pv 3) (pa_cons (pv 4) pa_nil)))))))))))), ?_⟩
    have hcl : cutV (ns.map V.int) none (some 63) = ns.map V.int := by
      unfold cutV
      rw [HT.sIx_none, show HT.sIx (ns.map V.int).length (ns.map V.int).length (some 63) = min 63 (ns.map V.int).length from HT.sIx_nat _ _ 63, List.drop_zero, List.length_map]
      exact List.take_of_length_le (by rw [List.length_map]; omega)
    have hlm : (ns.map V.int).length = ns.length := List.length_map ..
    walk_at "rds"
    rw [hcl] at hv
    have s0 := hs
    have hS0 : SqL K H' a (ns.map V.int) := by walk_at "sq"
    have hp0 : SqL K H' p' (ns.map V.int) := by walk_at "sq"
    clear hv hs hp
    generalize H' = H0 at s0 hS0 hp0
    refine RD.forW (walk_list (xs := ns.map V.int)) (fun i σ H' => ∃ (sd : Int) (x2 x3 x4 : Option V), σ = [some (.ref a), some (.int sd), x2, x3, x4] ∧ Same H0 H') ⟨_, _, _, _, rfl, Same.refl _⟩ (fun i σ H' _ p => ?_) (fun i x σ H2 H3 hi hp hy => ?_) (fun σ H2 hp => ?_)
    · obtain ⟨sd, x2, x3, x4, rfl, s2⟩ := p
      walk_at "sq"
    · obtain ⟨sd, x2, x3, x4, rfl, s2⟩ := hp
      obtain ⟨rfl, hx⟩ := hy
      rw [List.getElem?_map] at hx
      obtain ⟨n, hn, rfl⟩ := Option.map_eq_some_iff.mp hx
      walk_at "rds"
      exact ⟨_, _, _, _, rfl, s2⟩
    · obtain ⟨sd, x2, x3, x4, rfl, s2⟩ := hp
      have s02 := s0.trans s2
      have h2 : SqL K H2 a (ns.map V.int) := by walk_at "sq"
      clear s2 s0 hS0 hp0
      walk_at "rds"
      rw [hcl] at hv
      refine RD.lcF (walk_list (xs := ns.map V.int)) (by rw [hlm]; omega) (fun i => (ns[i]?).bind fun n => if (10 : Int) ^ (18 : Int).toNat ≤ (if n < 0 then -n else n) then some (.int (if n < 0 then -n else n)) else none) (fun H' s => by walk_at "sq") (fun i x H3 Z N hi hx s3 hZ hN => ?_) (fun D H3 hD s3 hv3 => ?_)
      · rw [List.getElem?_map] at hx
        obtain ⟨n, hn, rfl⟩ := Option.map_eq_some_iff.mp hx
        walk_at "rds"
        refine ⟨rfl, ?_⟩
        walk_at "rds"
        refine RD.ite_d (fun h => ?_) (fun h => ?_)
        · walk_at "rds"
          exact hZ _ _ (by rw [hn]; exact if_pos h) (Same.refl _)
        · exact hN _ (by rw [hn]; exact if_neg h) (Same.refl _)
      · obtain ⟨cells, hcl2⟩ : ∃ cells : List Int, (List.range (ns.map V.int).length).filterMap (fun i => (ns[i]?).bind fun n => if (10 : Int) ^ (18 : Int).toNat ≤ (if n < 0 then -n else n) then some (V.int (if n < 0 then -n else n)) else none) = cells.map V.int := by
          refine ⟨(List.range (ns.map V.int).length).filterMap (fun i => (ns[i]?).bind fun n => if (10 : Int) ^ (18 : Int).toNat ≤ (if n < 0 then -n else n) then some (if n < 0 then -n else n) else none), ?_⟩
          rw [List.map_filterMap]
          refine congrArg (fun f => List.filterMap f _) (funext fun i => ?_)
          cases ns[i]? with
          | none => rfl
          | some n =>
            simp only [Option.bind_some]
            by_cases h : (10 : Int) ^ (18 : Int).toNat ≤ (if n < 0 then -n else n)
            · rw [if_pos h, if_pos h]; rfl
            · rw [if_neg h, if_neg h]; rfl
        rw [hcl2] at hv3
        have hlc : (cells.map V.int).length = cells.length := List.length_map ..
        have s03 : Same H H3 := (s02.trans hs).trans s3
        have h3 : SqL K H3 a (ns.map V.int) := by walk_at "sq"
        have fin : ∀ (sd n : Int) (al : V), (al = .non ∨ ∃ m, al = .int m) → ∀ (p4 : Addr) (H5 H4 : Hp), Same H3 H5 → H5 p4 = none → Same H5 H4 → H4 p4 = some (.lst [.int sd, .int n, .ref D, al]) → Q (.ref p4) H4 := fun sd n al hal p4 H5 H4 s45 hp4 s4 hv4 =>
          q (p4, D) H4 (s03.trans (s45.trans s4)) ((s03.trans s45).free hp4) ⟨cells, sd, n, al, hv4, s4 _ _ (s45 _ _ hv3), ne_of_none (s45 _ _ hv3) hp4, hal⟩
        clear hv hs hp s02 h2 hD s3
        walk_at "rds"
        refine RD.ite_d (fun _ => ?_) (fun _ => ?_)
        · walk_at "rds"
          refine RD.ite_d (fun _ => ?_) (fun _ => ?_)
          · walk_at "rds"
            refine RD.lcF (walk_list (xs := ns.map V.int)) (by rw [hlm]; omega) (fun i => (ns[i]?).map fun n => .int n) (fun H' s => by walk_at "sq") (fun i x H4 Z N hi hx s4 hZ hN => ?_) (fun D4 H4 hD4 s4 hv4 => ?_)
            · rw [List.getElem?_map] at hx
              obtain ⟨n, hn, rfl⟩ := Option.map_eq_some_iff.mp hx
              walk_at "rds"
              refine ⟨rfl, ?_⟩
              walk_at "rds"
              exact hZ _ _ (by rw [hn]; rfl) (Same.refl _)
            · have e : (List.range (ns.map V.int).length).filterMap (fun i => (ns[i]?).map fun n => V.int n) = ns.map V.int := by
                rw [hlm, RD.range_get (fun n => V.int n) ns]
              rw [e] at hv4
              walk_at "rds"
              exact fin _ _ _ (.inr ⟨_, rfl⟩) _ _ _ s4 hp hs hv
          · walk_at "rds"
            exact fin _ _ _ (.inl rfl) _ _ _ (Same.refl _) hp hs hv
        · walk_at "rds"
          exact fin _ _ _ (.inl rfl) _ _ _ (Same.refl _) hp hs hv
theorem ok_pick (T : Txt P K mg) : FnOk P w K mg base CX0 1 T.a_pick T.fd_pick ["_law_bag_here", "_law_many"] spPick := by
  have nd := sc_pick.nd
  refine T.F_pick.ok sc_pick (fun vs H Q E h => ?_) (fun cdv A outer s H vs Q E hr h => ?_)
  · obtain ⟨x, m, rfl, _⟩ := h
    rfl
  · obtain ⟨⟨a, g⟩, m, rfl, ⟨cells, sd, n, al, ha, hc, hca, hal⟩, hm0, hm1, q⟩ := h
    refine ⟨_, (pss_cons (ps_if (pt_cmpR op_notN (pe_ix ix_list (pv 0) pe_int (fun _ _ => rfl)) pe_non (nomark _))
    (pss_one (ps_ret (pe_op op_mod (pe_callTy call_int1 (by rfl) T.m_int (by decide +kernel) (pa_cons (pe_ix ix_list (pv 0) pe_int (fun _ _ => rfl)) pa_nil)) (pv 1))))
    pss_nil)
  (pss_cons (ps_asg (pe_op op_add (pe_ix ix_list (pv 0) pe_int (fun _ _ => rfl)) pe_int) (pg_sub (pv 0) pe_int set_list))
  (pss_cons (ps_set (i := 2) nd rfl (by first | exact Or.inl rfl | exact Or.inr rfl) (pe_ix ix_list (pv 0) pe_int (fun _ _ => rfl)))
  (pss_cons (ps_if (pt_cmpR op_gt (pe_callB call_len_seq (by rfl) T.m_len PySem.boot_len (pa_cons (pv 2) pa_nil)) pe_int (nomark _))
    (pss_cons (ps_set (i := 3) nd rfl (by first | exact Or.inl rfl | exact Or.inr rfl) (pe_op op_mod (pe_callTy call_int1 (by rfl) T.m_int (by decide +kernel) (pa_cons (pe_ix ix_list (pv 2) pe_int (fun _ _ => rfl)) pa_nil)) (pv 1)))
  (pss_cons (ps_asg (pe_op op_fdiv (pe_callTy call_int1 (by rfl) T.m_int (by decide +kernel) (pa_cons (pe_ix ix_list (pv 2) pe_int (fun _ _ => rfl)) pa_nil)) (pv 1)) (pg_sub (pv 2) pe_int set_list))
  (pss_cons (ps_if (pt_cmpR op_eq (pe_ix ix_list (pv 2) pe_int (fun _ _ => rfl)) pe_int (nomark _))
    (pss_one (ps_expr (pe_bm PySem.F.plainAttrs_list PySem.F.slot_list_pop PySem.F.type_list_pop mt_popAt (pv 2) (pa_cons pe_int pa_nil))))
    pss_nil)
  (pss_one (ps_ret (pv 3))))))
    pss_nil)
  (pss_cons (ps_set (i := 4) nd rfl (by first | exact Or.inl rfl | exact Or.inr rfl) (pe_op op_mod (pe_callTy call_int1 (by rfl) T.m_int (by decide +kernel) (pa_cons (pe_op op_mul (pe_op op_add (pe_ix ix_list (pv 0) pe_int (fun _ _ => rfl)) (pe_op op_mul pe_int (pe_ix ix_list (pv 0) pe_int (fun _ _ => rfl)))) pe_int) pa_nil)) pe_int))
  (pss_cons (ps_set (i := 4) nd rfl (by first | exact Or.inl rfl | exact Or.inr rfl) (pe_op op_mod (pe_callTy call_int1 (by rfl) T.m_int (by decide +kernel) (pa_cons (pe_op op_mul (pv 4) (pe_op op_add (pe_op op_fdiv (pv 4) pe_int) pe_int)) pa_nil)) pe_int))
  (pss_cons (ps_set (i := 4) nd rfl (by first | exact Or.inl rfl | exact Or.inr rfl) (pe_op op_mod (pe_callTy call_int1 (by rfl) T.m_int (by decide +kernel) (pa_cons (pe_op op_mul (pv 4) (pe_op op_add (pe_op op_fdiv (pv 4) pe_int) pe_int)) pa_nil)) pe_int))
  (pss_one (ps_ret (pe_op op_mod (pe_callTy call_int1 (by rfl) T.m_int (by decide +kernel) (pa_cons (pe_op op_fdiv (pv 4) pe_int) pa_nil)) (pv 1))))))))))), ?_⟩
    simp only at ha hc hca
    walk_at "rds"
    rcases hal with rfl | ⟨m', rfl⟩
    · refine ⟨rfl, false, rfl, ?_⟩
      walk_at "rds"
      have k1 : SPE.KX (a, g) H H' := SPE.kx1 hk SPE.KX.refl
      have hc1 : H' g = some (.lst (cells.map V.int)) := by walk_at "hp"
      have ha1 := hv
      clear hk hv
      generalize H' = H1 at k1 hc1 ha1
      refine RD.ite_d (fun h0 => ?_) (fun _ => ?_)
      · cases cells with
        | nil => exact absurd h0 (by decide)
        | cons c0 rest =>
          have hat : ∀ (c : Int) (r : List Int), atI ((c :: r).map V.int) 0 = some (.int c) := fun c r => by
            unfold atI ixN
            rw [if_pos (by decide), if_pos (by rw [List.length_map, List.length_cons]; omega)]
            rfl
          have hix : ∀ (c : Int) (r : List Int), ixN ((c :: r).map V.int).length 0 = some 0 := fun c r => by
            unfold ixN
            rw [if_pos (by decide), if_pos (by rw [List.length_map, List.length_cons]; omega)]
            rfl
          walk_at "rds"
          refine RD.ixL (by walk_at "sq") (hat _ _) ?_
          walk_at "rds"
          refine RD.ixL (by walk_at "sq") (hat _ _) ?_
          walk_at "rds"
          refine RD.setL hc1 (hix _ _) fun H' hk hv => ?_
          have k2 : SPE.KX (a, g) H H' := SPE.kx2 hk k1
          have ha2 := hk _ _ (Ne.symm hca) ha1
          have hc2 : H' g = some (.lst ((c0 / m :: rest).map V.int)) := hv
          clear hk hv
          generalize H' = H2 at k2 hc2 ha2
          walk_at "rds"
          refine RD.ixL (by walk_at "sq") (hat _ _) ?_
          walk_at "rds"
          refine RD.ite_d (fun _ => ?_) (fun _ => ?_)
          · walk_at "rds"
            refine SPE.popAt hc2 ⟨by decide, by decide⟩ (k := 0) (ixN_seq (hix _ _)).1 rfl fun H3 k3 h3 => ?_
            walk_at "rds"
            exact q _ _ (Int.emod_nonneg _ (by omega)) (Int.emod_lt_of_pos _ hm0) (SPE.kx2 k3 k2) ⟨rest, _, _, _, k3 _ _ (Ne.symm hca) ha2, h3, hca, .inl rfl⟩
          · walk_at "rds"
            exact q _ _ (Int.emod_nonneg _ (by omega)) (Int.emod_lt_of_pos _ hm0) k2 ⟨_, _, _, _, ha2, hc2, hca, .inl rfl⟩
      · walk_at "rds"
        exact q _ _ (Int.emod_nonneg _ (by omega)) (Int.emod_lt_of_pos _ hm0) k1 ⟨_, _, _, _, ha1, hc1, hca, .inl rfl⟩
    · refine ⟨rfl, true, rfl, ?_⟩
      walk_at "rds"
      exact q _ _ (Int.emod_nonneg _ (by omega)) (Int.emod_lt_of_pos _ hm0) SPE.KX.refl ⟨cells, _, _, _, ha, hc, hca, .inr ⟨_, rfl⟩⟩
theorem ok_some (T : Txt P K mg) : FnOk P w K mg base CX0 2 T.a_some T.fd_some ["_law_bag_here", "_law_things"] (spSome K) := by
  have nd := sc_some.nd
  have G_pick : FnOk P w K mg base CX0 1 T.a_pick T.fd_pick ["_law_bag_here", "_law_many"] spPick := ok_pick T
  refine T.F_some.ok sc_some (fun vs H Q E h => ?_) (fun cdv A outer s H vs Q E hr h => ?_)
  · obtain ⟨x, y, zs, rfl, _⟩ := h
    rfl
  · obtain ⟨x, y, zs, rfl, hh, hi, h0, h1, q⟩ := h
    refine ⟨_, (pss_one (ps_ret (pe_ix ix_seq (pv 1) (pe_call G_pick hr (by rfl) T.g_pick T.F_pick.kp T.b_pick .nil pass0 (pa_cons (pv 0) (pa_cons (pe_callB call_len (by rfl) T.m_len PySem.boot_len (pa_cons (pv 1) pa_nil)) pa_nil))) (fun _ _ => rfl)))), ?_⟩
    walk_at "rds"
    refine ⟨y, zs.length, rfl, ?_, ?_⟩
    · cases hi with
      | lst n hx => exact .inl ⟨_, hx, rfl⟩
      | tup n hx => exact .inr ⟨_, hx, rfl⟩
      | str hz => exact ⟨hz, by rw [List.length_map]; rfl⟩
    · walk_at "rds"
      refine spPick.mk hh (by omega) (by omega) fun r H' hr0 hr1 k hh' => ?_
      obtain ⟨v, hat, hv⟩ := RD.at_lt (xs := zs) hr0 hr1
      have hm := List.mem_of_getElem? hv
      cases hi with
      | lst n hx => exact .inl ⟨_, _, _, _, rfl, rfl, k.seq n hx, hat, q _ _ hm k hh'⟩
      | tup n hx => exact .inr (.inl ⟨_, _, _, _, rfl, rfl, k.tup n hx, hat, q _ _ hm k hh'⟩)
      | @str z hz =>
        rw [List.length_map] at hr1
        obtain ⟨cp, hat2, hc⟩ := RD.at_lt (xs := z.cps.toList) hr0 hr1
        refine .inr (.inr ⟨z, r, cp, rfl, rfl, hz, hat2, q _ _ ?_ k hh'⟩)
        exact List.mem_map.mpr ⟨cp, List.mem_of_getElem? hc, rfl⟩
end


end K27

namespace K27
open PySem PySem.Spec PyProof.Rows L2
local macro_rules | `(tactic| walk_at "kd") => `(tactic| first | assumption | exact SPD.KdOf.int _ | exact SPD.KdOf.str _ | exact SPD.KdOf.bl _ | exact SPD.KdOf.non | exact SPD.KdOf.same (by assumption) (by walk_at "kd") | exact SPD.KdOf.tup (by walk_at "hp") | exact SPD.KdOf.lst (by walk_at "hp") | fail "no")
local macro_rules | `(tactic| walk_at "ne") => `(tactic| first | assumption | exact Ne.symm (by assumption) | fail "no")
local macro_rules | `(tactic| walk_at "hp") => `(tactic| first | assumption | exact RD.at_same (by assumption) (by walk_at "hp") | exact RD.at_kb (by assumption) (by walk_at "ne") (by walk_at "hp") | fail "no")
local macro_rules | `(tactic| walk_at "sq") => `(tactic| first | assumption | exact Or.inl (Or.inl (by walk_at "hp")) | exact Same.seq (by assumption) (by walk_at "sq") | exact RD.KB.seq (by assumption) (by walk_at "ne") (by walk_at "sq") | fail "no")
local macro_rules | `(tactic| walk_at "st") => `(tactic| first | assumption | exact Or.inl (Or.inl (by walk_at "hp")) | exact RD.Same.tup (by assumption) (by walk_at "st") | exact RD.KB.tup (by assumption) (by walk_at "ne") (by walk_at "st") | fail "no")
local macro_rules | `(tactic| walk_at "rd") => `(tactic| first
  | with_reducible refine RD.c ?_
  | ((with_reducible refine' RD.var ?rdE ?rdK); (case rdE => exact rfl))
  | with_reducible refine RD.op ?_
  | with_reducible refine RD.un ?_
  | with_reducible refine RD.nil ?_
  | with_reducible refine RD.cons ?_
  | with_reducible refine RD.cb ?_
  | with_reducible refine RD.call ?_
  | with_reducible refine RD.test ?_
  | with_reducible refine RD.tb' ?_
  | with_reducible refine RD.bl ?_
  | with_reducible refine RD.and' ?_
  | with_reducible refine RD.or' ?_
  | with_reducible refine RD.not' ?_
  | with_reducible refine RD.andV ?_
  | with_reducible refine RD.orV ?_
  | with_reducible refine RD.notV ?_
  | with_reducible refine RD.ife ?_
  | with_reducible refine RD.sl ?_
  | with_reducible refine RD.part ?_
  | with_reducible refine RD.noPart ?_
  | with_reducible refine RD.partI ?_
  | with_reducible refine RD.rd0 ?_
  | with_reducible refine RD.rdU ?_
  | ((with_reducible refine' RD.rdEq ?rdE ?rdK); (case rdE => rfl))
  | ((with_reducible refine' RD.rdNe ?rdE ?rdK); (case rdE => rfl))
  | ((with_reducible refine' RD.ixL ?rdH ?rdE ?rdK); (case rdH => walk_at "sq"); (case rdE => first | rfl | assumption))
  | ((with_reducible refine' RD.rdI ?rdC ?rdK); (case rdC => first | assumption | (show (0 : Int) < _; first | decide | omega) | exact ⟨by decide, by decide⟩ | exact ⟨by assumption, by assumption⟩ | exact .inr ⟨by decide, by decide⟩ | exact .inl ⟨by decide, by decide⟩ | exact ⟨by decide, by decide, by decide⟩ | exact .inl ⟨by omega, by omega⟩))
  | ((with_reducible refine' RD.setL ?rdH ?rdE ?rdK); (case rdH => walk_at "hp"); (case rdE => rfl); intro $(Lean.mkIdent `H'):ident $(Lean.mkIdent `hk):ident $(Lean.mkIdent `hv):ident)
  | ((with_reducible refine' RD.irng1V ?rdA ?rdB ?rdK); (case rdA => first | decide | omega); (case rdB => first | decide | omega))
  | with_reducible refine RD.int1 ?_
  | with_reducible refine RD.abs1 ?_
  | ((with_reducible refine' RD.len ?rdH ?rdK); (case rdH => first | exact Or.inl (by walk_at "sq") | exact Or.inr (by walk_at "st")))
  | with_reducible refine RD.tup ?_
  | with_reducible refine RD.lst ?_
  | with_reducible refine RD.ite1 ?_
  | with_reducible refine RD.ite0 ?_
  | with_reducible refine RD.ite1n ?_
  | with_reducible refine RD.ite0n ?_
  | with_reducible refine RD.seq ?_
  | with_reducible refine RD.asg ?_
  | with_reducible refine RD.name ?_
  | with_reducible refine RD.ret ?_
  | with_reducible refine RD.drop ?_
  | with_reducible refine RD.next ?_
  | with_reducible refine RD.ifs ?_
  | with_reducible refine RD.par ?_
  | with_reducible refine RD.par2 ?_
  | with_reducible refine RD.sub ?_
  | with_reducible refine RD.gcons ?_
  | with_reducible refine RD.gnil ?_
  | with_reducible refine RD.bm ?_
  | ((with_reducible refine' RD.bmL ?rdH ?rdK); (case rdH => walk_at "sq"))
  | ((with_reducible refine' RD.newZ ?rdH ?rdK); (case rdH => exact RD.sz _); intro $(Lean.mkIdent `p'):ident $(Lean.mkIdent `H'):ident $(Lean.mkIdent `hp):ident $(Lean.mkIdent `hs):ident $(Lean.mkIdent `hv):ident; (try have $(Lean.mkIdent `hn):ident := hand_ne $(Lean.mkIdent `hp):ident (by walk_at "hk")))
  | with_reducible refine RD.fors ?_
  | with_reducible refine RD.lc ?_
  | with_reducible refine RD.yes ?_
  | with_reducible refine RD.ilist ?_
  | ((with_reducible refine' RD.ilistV ?rdH ?rdK); (case rdH => walk_at "sq"))
  | with_reducible refine RD.itup ?_
  | ((with_reducible refine' RD.itupV ?rdH ?rdK); (case rdH => walk_at "st"))
  | with_reducible refine RD.irng1 ?_
  | with_reducible refine RD.irng2 ?_
  | ((with_reducible refine' RD.irng2V ?rdA ?rdK); (case rdA => first | decide | omega))
  | with_reducible refine RD.ienum ?_
  | ((with_reducible refine' RD.ienumV ?rdH ?rdK); (case rdH => walk_at "sq"))
  | with_reducible refine RD.izip ?_
  | ((with_reducible refine' RD.izipV ?rdH ?rdE ?rdK); (case rdH => walk_at "sq"); (case rdE => walk_at "sq"))
  | with_reducible refine SPD.izipA ?_
  | with_reducible refine RD.istr ?_
  | with_reducible refine RD.istrV ?_
  | ((with_reducible refine' RD.slL ?rdH ?rdK); (case rdH => walk_at "sq"); intro $(Lean.mkIdent `p'):ident $(Lean.mkIdent `H'):ident $(Lean.mkIdent `hp):ident $(Lean.mkIdent `hs):ident $(Lean.mkIdent `hv):ident; (try have $(Lean.mkIdent `hn):ident := hand_ne $(Lean.mkIdent `hp):ident (by walk_at "hk")))
  | ((with_reducible refine' RD.cat ?rdH ?rdE ?rdZ ?rdK); (case rdH => walk_at "hp"); (case rdE => walk_at "hp"); (case rdZ => exact RD.sz _); intro $(Lean.mkIdent `p'):ident $(Lean.mkIdent `H'):ident $(Lean.mkIdent `hp):ident $(Lean.mkIdent `hs):ident $(Lean.mkIdent `hv):ident; (try have $(Lean.mkIdent `hn):ident := hand_ne $(Lean.mkIdent `hp):ident (by walk_at "hk")))
  | ((with_reducible refine' RD.gtup ?rdH ?rdE ?rdK); (case rdH => walk_at "st"); (case rdE => rfl))
  | ((with_reducible refine' RD.app ?rdH ?rdZ ?rdK); (case rdH => walk_at "hp"); (case rdZ => first | assumption | (apply RD.szl; omega)); intro $(Lean.mkIdent `H'):ident $(Lean.mkIdent `hk):ident $(Lean.mkIdent `hv):ident)
  | ((with_reducible refine' RD.all1 ?rdH ?rdK); (case rdH => walk_at "sq"))
  | ((with_reducible refine' RD.any1 ?rdH ?rdK); (case rdH => walk_at "sq"))
  | ((with_reducible refine' SPD.dnew ?rdK); intro $(Lean.mkIdent `p'):ident $(Lean.mkIdent `H'):ident $(Lean.mkIdent `hp):ident $(Lean.mkIdent `hs):ident $(Lean.mkIdent `hv):ident; (try have $(Lean.mkIdent `hn):ident := hand_ne $(Lean.mkIdent `hp):ident (by walk_at "hk")))
  | ((with_reducible refine' SPD.disp1 ?rdK); intro $(Lean.mkIdent `p'):ident $(Lean.mkIdent `H'):ident $(Lean.mkIdent `hp):ident $(Lean.mkIdent `hs):ident $(Lean.mkIdent `hv):ident; (try have $(Lean.mkIdent `hn):ident := hand_ne $(Lean.mkIdent `hp):ident (by walk_at "hk")))
  | ((with_reducible refine' SPD.isSeq ?rdH ?rdE ?rdK); (case rdH => walk_at "hp"); (case rdE => walk_at "kd"))
  | ((with_reducible refine' SPD.isTup ?rdE ?rdK); (case rdE => walk_at "kd"))
  | ((with_reducible refine' SPD.isLst ?rdE ?rdK); (case rdE => walk_at "kd"))
  | ((with_reducible refine' SPD.isBool ?rdE ?rdK); (case rdE => walk_at "kd"))
  | ((with_reducible refine' SPD.isStr ?rdE ?rdK); (case rdE => walk_at "kd"))
  | ((with_reducible refine' SPD.isInt ?rdE ?rdK); (case rdE => walk_at "kd"))
  | dsimp only)
local macro_rules | `(tactic| walk_at "rds") => `(tactic| repeat walk_at "rd")
local macro_rules | `(tactic| walk_at "sm") => `(tactic| first | assumption | exact Same.refl _ | exact RD.sm_tr (by assumption) (by walk_at "sm") | fail "no")
local macro_rules | `(tactic| walk_at "kb") => `(tactic| first | assumption | exact RD.KB.refl | exact RD.kb_tr (by assumption) (by walk_at "kb") | exact RD.kb_trs (by assumption) (by walk_at "kb") | fail "no")
local macro_rules | `(tactic| walk_at "fr") => `(tactic| first | assumption | exact RD.fr_of (by assumption) (by walk_at "sm") | fail "no")
local macro_rules | `(tactic| walk_at "hk") => `(tactic| first | assumption | exact hand_same (by assumption) (by walk_at "hk") | exact hand_kb (by assumption) (by walk_at "fr") (by walk_at "hk") | fail "no")
local macro_rules | `(tactic| walk_at "na") => `(tactic| first | assumption | exact hand_ne (by assumption) (by walk_at "hk") | fail "no")
local macro_rules | `(tactic| walk_at "dqa") => `(tactic| first | exact SPD.DqA.nil | exact SPD.DqA.cons (by walk_at "dq") (by walk_at "dqa") | exact SPD.DqA.app (by walk_at "dqa") (by walk_at "dqa") | fail "no")
local macro_rules | `(tactic| walk_at "dq") => `(tactic| first | assumption | exact SPD.Dq.leaf rfl | exact SPD.dq_kb (by assumption) (by walk_at "kb") | exact SPD.dqTup (by walk_at "hp") (by walk_at "na") (by walk_at "dqa") | exact SPD.dqLst (by walk_at "hp") (by walk_at "na") (by walk_at "dqa") | exact SPD.dqNil (by walk_at "hp") (by walk_at "na") (by first | decide | simp) (by first | decide | simp) | fail "no")

local macro_rules | `(tactic| walk_at "rd") => `(tactic| first
  | with_reducible refine RB.chain ?_
  | with_reducible refine RB.m1 ?_
  | with_reducible refine RB.strE ?_
  | with_reducible refine RB.fld ?_
  | with_reducible refine RB.setF ?_
  | with_reducible refine RB.ss ?_
  | with_reducible refine RB.rev ?_
  | with_reducible refine RB.make ?_
  | with_reducible refine RB.makeS ?_
  | with_reducible refine RB.mkO ?_
  | with_reducible refine NR.ienumT ?_
  | with_reducible refine RB.inS ?_
  | with_reducible refine RB.bmS ?_
  | with_reducible refine RB.callS ?_
  | with_reducible refine RB.sw3 ?_
  | with_reducible refine RB.par3 ?_
  | with_reducible refine RB.par3V ?_
  | ((with_reducible refine' RB.slS ?rdH ?rdK); (case rdH => walk_at "sz"))
  | with_reducible refine RB.xf ?_
  | ((with_reducible refine' RB.xfV ?rdH ?rdE ?rdK); (case rdH => walk_at "hp"); (case rdE => rfl))
  | ((with_reducible refine' NR.ienumTV ?rdH ?rdK); (case rdH => walk_at "st"))
  | ((with_reducible refine' RB.lenL ?rdH ?rdK); (case rdH => walk_at "sq"))
  | ((with_reducible refine' RB.lenT ?rdH ?rdK); (case rdH => walk_at "st"))
  | ((with_reducible refine' RB.lenS ?rdH ?rdK); (case rdH => walk_at "sz"))
  | ((with_reducible refine' RD.lenS ?rdH ?rdK); (case rdH => walk_at "sz"))
  | ((with_reducible refine' RB.slT ?rdH ?rdK); (case rdH => walk_at "hp"); intro $(Lean.mkIdent `p'):ident $(Lean.mkIdent `H'):ident $(Lean.mkIdent `hs):ident $(Lean.mkIdent `hv):ident $(Lean.mkIdent `hp):ident; (try have $(Lean.mkIdent `hn):ident := two_ne $(Lean.mkIdent `hp):ident (by walk_at "na") (by walk_at "hk")))
  | ((with_reducible refine' RB.revV ?rdH ?rdK); (case rdH => walk_at "st"); intro $(Lean.mkIdent `p'):ident $(Lean.mkIdent `H'):ident $(Lean.mkIdent `hp):ident $(Lean.mkIdent `hs):ident $(Lean.mkIdent `hv):ident; (try have $(Lean.mkIdent `hn):ident := hand_ne $(Lean.mkIdent `hp):ident (by walk_at "hk")))
  | ((with_reducible refine' RB.listS ?rdH ?rdK); (case rdH => walk_at "sz"); intro $(Lean.mkIdent `p'):ident $(Lean.mkIdent `H'):ident $(Lean.mkIdent `hp):ident $(Lean.mkIdent `hs):ident $(Lean.mkIdent `hv):ident; (try have $(Lean.mkIdent `hn):ident := hand_ne $(Lean.mkIdent `hp):ident (by walk_at "hk")))
  | ((with_reducible refine' RB.listO ?rdH ?rdK); (case rdH => first | exact Or.inl (by walk_at "sq") | exact Or.inr (by walk_at "st")); intro $(Lean.mkIdent `p'):ident $(Lean.mkIdent `H'):ident $(Lean.mkIdent `hp):ident $(Lean.mkIdent `hs):ident $(Lean.mkIdent `hv):ident; (try have $(Lean.mkIdent `hn):ident := hand_ne $(Lean.mkIdent `hp):ident (by walk_at "hk")))
  | ((with_reducible refine' RB.tupL ?rdH ?rdK); (case rdH => walk_at "sq"); intro $(Lean.mkIdent `p'):ident $(Lean.mkIdent `H'):ident $(Lean.mkIdent `hp):ident $(Lean.mkIdent `hs):ident $(Lean.mkIdent `hv):ident; (try have $(Lean.mkIdent `hn):ident := hand_ne $(Lean.mkIdent `hp):ident (by walk_at "hk")))
  | ((with_reducible refine' RB.catT ?rdH ?rdE ?rdZ ?rdK); (case rdH => walk_at "hp"); (case rdE => walk_at "hp"); (case rdZ => exact RB.LN.sum (by walk_at "ln") (by walk_at "ln") rfl); intro $(Lean.mkIdent `p'):ident $(Lean.mkIdent `H'):ident $(Lean.mkIdent `hs):ident $(Lean.mkIdent `hv):ident $(Lean.mkIdent `hp):ident; (try have $(Lean.mkIdent `hn):ident := three_ne $(Lean.mkIdent `hp):ident (by walk_at "na") (by walk_at "na") (by walk_at "hk")))
  | fail "no")
local macro_rules | `(tactic| walk_at "ln") => `(tactic| first | with_reducible assumption | exact RB.LN.cut (by walk_at "ln") | exact RB.LN.app (by walk_at "ln") (by walk_at "ln") | exact RB.LN.rev (by walk_at "ln") | exact RB.LN.rep (by walk_at "ln") | exact RB.LN.lit rfl | fail "no")
local macro_rules | `(tactic| walk_at "sz") => `(tactic| first | assumption | exact RD.sz _ | fail "no")

/-! ### pieces, books -/
def lets : List Nat := ("abcdefgh" : Str).cps.toList
def logB (z : Str) : Bool := z.cps.toList.all fun c => decide (c ∈ lets)
def pieceB (z : Str) : Bool := logB z && (decide (1 ≤ z.cps.size) && decide (z.cps.size ≤ 8))
def logV : V → Bool
  | .str z => logB z
  | _ => false
def pieceV : V → Bool
  | .str z => pieceB z
  | _ => false
/-- the first place that is no piece, or one again -/
def dueL (acc : List Str) : List V → V
  | [] => .non
  | .str z :: r => if (pieceB z && !(acc.contains z)) = true then dueL (acc ++ [z]) r else .int (acc.length : Nat)
  | _ :: _ => .int (acc.length : Nat)
inductive DueR (K : PySem.W.Frag) (H : Hp) : V → V → Prop where
  | kind {v : V} {k : SPD.Kd} : SPD.KdOf K H v k → k ≠ .tup → DueR K H v (.str "pieces")
  | len {t : Addr} {xs : List V} : H t = some (.tup xs) → ¬ (1 ≤ xs.length ∧ xs.length ≤ 12) → DueR K H (.ref t) (.str "pieces")
  | due {t : Addr} {xs : List V} : H t = some (.tup xs) → 1 ≤ xs.length → xs.length ≤ 12 → DueR K H (.ref t) (dueL [] xs)
theorem DueR.same {K : PySem.W.Frag} {H H' : Hp} {v r : V} (s : Same H H') (h : DueR K H v r) : DueR K H' v r := by
  cases h with
  | kind a b => exact .kind (a.same s) b
  | len a b => exact .len (s _ _ a) b
  | due a b c => exact .due (s _ _ a) b c
def spLog : Sp := fun vs H Q _ => ∃ (x : Addr) (n : Nat) (v : V), vs = [v] ∧ SPD.Dq x H n v ∧ ∀ H', Same H H' → Q (.bl (logV v)) H'
def spPiece : Sp := fun vs H Q _ => ∃ (x : Addr) (n : Nat) (v : V), vs = [v] ∧ SPD.Dq x H n v ∧ ∀ H', Same H H' → Q (.bl (pieceV v)) H'
theorem str_small {x : Addr} {H : Hp} {n : Nat} {z : Str} (h : SPD.Dq x H n (.str z)) : z.cps.size ≤ 100000 := by
  cases h with
  | leaf e => exact Nat.le_of_ble_eq_true e
theorem small_len {z : Str} (h : z.cps.size ≤ 100000) : z.length ≤ sizeLine := by
  rw [sizeLine_eq]
  show z.cps.size ≤ 16777216
  omega
theorem log_list {z : Str} : (List.range z.cps.size).filterMap (fun i => (z.cps.toList[i]?).map fun c => V.bl (decide (c ∈ lets))) = (z.cps.toList.map fun c => decide (c ∈ lets)).map V.bl := by
  have e : z.cps.size = z.cps.toList.length := (Array.length_toList).symm
  rw [e, RD.range_get (fun c => V.bl (decide (c ∈ lets))) z.cps.toList, List.map_map]
  rfl
theorem log_all {z : Str} : (z.cps.toList.map fun c => decide (c ∈ lets)).all id = logB z := by
  rw [List.all_map]
  rfl
section
variable {P : Program} {w : World} {K : PySem.W.Frag} {mg : Str → Option Value} {base : Heap}
theorem ok_q_is_log (T : Txt P K mg) : FnOk P w K mg base CX0 1 T.a_q_is_log T.fd_q_is_log ["thing"] spLog := by
  have nd := sc_q_is_log.nd
  refine T.F_q_is_log.ok sc_q_is_log (fun vs H Q E h => ?_) (fun cdv A outer s H vs Q E hr h => ?_)
  · obtain ⟨x, n, v, rfl, _⟩ := h
    rfl
  · obtain ⟨x, n, v, rfl, hd, q⟩ := h
    obtain ⟨t_LETTERS, g_LETTERS⟩ := T.g_LETTERS
    refine ⟨_, (pss_one (ps_ret (pe_and (pe_callB call_isi (by rfl) T.m_isinstance (by decide +kernel) (pa_cons (pv 0) (pa_cons (pe_bltn (v := .ty "str") (by rfl) T.m_str (by decide +kernel) rfl) pa_nil))) (pe_one (pe_callB (cr_all rfl) (by rfl) T.m_all (by decide +kernel) (pa_cons (pe_lc (own := [("sign", 1)]) (g := (gName 1)) rfl nd (pi_str (pv 0)) (blkOk_by (own := [("sign", 1)]) (N := N_q_is_log) (sc := defScope s_q_is_log) (by decide +kernel)) (fun _ _ _ _ _ => (pg_name (i := 1) nd rfl (Or.inl rfl))) (fun _ _ _ _ _ => pts_nil) (fun _ _ _ _ _ => (pe_cmpR op_in_sign (pv 1) (pe_glob (v := .str "abcdefgh") (by rfl) g_LETTERS ⟨_, rfl⟩) (by first | rfl | exact nomark _)))) pa_nil)))))), ?_⟩
    obtain ⟨k, hk⟩ := hd.kd (K := K)
    walk_at "rds"
    refine RD.ite_d (fun e => ?_) (fun ne => ?_)
    · subst e
      cases hk with
      | str z =>
        have hz := str_small hd
        walk_at "rds"
        refine RD.lcF RB.w_str (by omega) (fun i => (z.cps.toList[i]?).map fun c => V.bl (decide (c ∈ lets))) (fun _ _ => trivial) (fun i x H' Z N hi hx s hZ hN => ?_) (fun D H' hD s hv => ?_)
        · rw [List.getElem?_map] at hx
          obtain ⟨c, hc, rfl⟩ := Option.map_eq_some_iff.mp hx
          walk_at "rds"
          refine ⟨rfl, ?_⟩
          walk_at "rds"
          exact hZ _ _ (by rw [hc]; rfl) (Same.refl _)
        · rw [log_list] at hv
          walk_at "rds"
          rw [log_all]
          exact q _ s
    · have e : logV v = false := by
        cases hk <;> first | rfl | exact absurd rfl ne
      rw [← e]
      exact q _ (Same.refl _)
end

theorem piece_of {z : Str} (h : logB z = true) (h1 : 1 ≤ (z.length : Int)) : pieceB z = decide ((z.length : Int) ≤ 8) := by
  have e : z.length = z.cps.size := rfl
  rw [e] at h1 ⊢
  unfold pieceB
  rw [h, decide_eq_true (show 1 ≤ z.cps.size by omega), Bool.true_and, Bool.true_and]
  exact decide_eq_decide.mpr (by omega)
theorem piece_short {z : Str} (h1 : ¬ 1 ≤ (z.length : Int)) : pieceB z = false := by
  have e : z.length = z.cps.size := rfl
  rw [e] at h1
  unfold pieceB
  rw [decide_eq_false (show ¬ 1 ≤ z.cps.size by omega), Bool.false_and, Bool.and_false]
theorem due_bad {acc : List Str} {y : V} {r : List V} (h : pieceV y = false) : dueL acc (y :: r) = .int (acc.length : Nat) := by
  cases y with
  | str z =>
    have h : pieceB z = false := h
    show (if (pieceB z && !(acc.contains z)) = true then _ else _) = _
    rw [h]
    rfl
  | _ => rfl
theorem due_twice {acc : List Str} {z : Str} {r : List V} (h : acc.contains z = true) : dueL acc (.str z :: r) = .int (acc.length : Nat) := by
  show (if (pieceB z && !(acc.contains z)) = true then _ else _) = _
  rw [h]
  simp
theorem due_good {acc : List Str} {z : Str} {r : List V} (h1 : pieceB z = true) (h : acc.contains z = false) : dueL acc (.str z :: r) = dueL (acc ++ [z]) r := by
  show (if (pieceB z && !(acc.contains z)) = true then _ else _) = _
  rw [h, h1]
  rfl
theorem inV_strs {z : Str} : ∀ acc : List Str, inV (.str z) (acc.map V.str) = acc.contains z
  | [] => rfl
  | a :: r => by
    have ih := inV_strs (z := z) r
    show (eqV (.str a) (.str z) || inV (.str z) (r.map V.str)) = _
    rw [ih, List.contains_cons]
    show ((a == z) || r.contains z) = ((z == a) || r.contains z)
    rw [show (a == z) = (z == a) from BEq.comm]
theorem flat_acc : ∀ acc : List Str, (acc.map V.str).all flatV = true
  | [] => rfl
  | _ :: r => flat_acc r
theorem cut_acc {acc : List Str} {rest : List V} {i : Nat} (hi : acc.length = i) (y : V) : cutV (acc.map V.str ++ y :: rest) none (some (i : Nat)) = acc.map V.str := by
  subst hi
  have hl : (acc.map V.str).length = acc.length := List.length_map ..
  unfold cutV
  rw [HT.sIx_none, show HT.sIx (acc.map V.str ++ y :: rest).length (acc.map V.str ++ y :: rest).length (some ((acc.length : Nat) : Int)) = min acc.length (acc.map V.str ++ y :: rest).length from HT.sIx_nat _ _ acc.length, List.drop_zero, Nat.sub_zero,
    Nat.min_eq_left (by rw [List.length_append, hl]; omega), ← hl]
  exact List.take_left ..
theorem rest_head {acc : List Str} {rest xs : List V} {i : Nat} {y : V} (e : xs = acc.map V.str ++ rest) (hi : acc.length = i) (hy : xs[i]? = some y) : ∃ r, rest = y :: r := by
  subst e hi
  rw [List.getElem?_append_right (by rw [List.length_map]; exact Nat.le_refl _), List.length_map, Nat.sub_self] at hy
  cases rest with
  | nil => cases hy
  | cons a r => exact ⟨r, by rw [Option.some.inj hy]⟩
def spBook (K : PySem.W.Frag) (C B : Addr) : Sp := fun vs H Q E => ∃ (x b dx : Addr) (n : Nat) (v : V), vs = [.ref b, v] ∧ H b = some (.ins C dx []) ∧ SPD.Dq x H n v ∧
  (∀ H', DueR K H v .non → RD.KB b H H' → H' b = some (.ins C dx [("pieces", v)]) → Q .non H') ∧
  (∀ r d H', DueR K H v r → r ≠ .non → H d = none → Same H H' → H' d = some (.xd [("part", r)]) → E (.ref B) (some d) H')
section
variable {P : Program} {w : World} {K : PySem.W.Frag} {mg : Str → Option Value} {base : Heap}
theorem ok_is_piece (T : Txt P K mg) : FnOk P w K mg base CX0 2 T.a_is_piece T.fd_is_piece ["thing"] spPiece := by
  have nd := sc_is_piece.nd
  have G_q_is_log : FnOk P w K mg base CX0 1 T.a_q_is_log T.fd_q_is_log ["thing"] spLog := ok_q_is_log T
  refine T.F_is_piece.ok sc_is_piece (fun vs H Q E h => ?_) (fun cdv A outer s H vs Q E hr h => ?_)
  · obtain ⟨x, n, v, rfl, _⟩ := h
    rfl
  · obtain ⟨x, n, v, rfl, hd, q⟩ := h
    obtain ⟨t_MOST_LONG, g_MOST_LONG⟩ := T.g_MOST_LONG
    refine ⟨_, (pss_one (ps_ret (pe_and (pe_call G_q_is_log hr (by rfl) T.g_q_is_log T.F_q_is_log.kp T.b_q_is_log .nil pass0 (pa_cons (pv 0) pa_nil)) (pe_one (pe_chain op_le op_le pe_int (pe_callB call_len_str (by rfl) T.m_len PySem.boot_len (pa_cons (pv 0) pa_nil)) (pe_glob (v := .int 8) (by rfl) g_MOST_LONG ⟨_, rfl⟩)))))), ?_⟩
    walk_at "rds"
    refine ⟨x, n, v, rfl, hd, fun H1 s1 => ?_⟩
    walk_at "rds"
    refine RD.ite_b (fun e => ?_) (fun e => ?_)
    · cases v with
      | str z =>
        have e : logB z = true := e
        have hz := small_len (str_small hd)
        walk_at "rds"
        refine RD.ite_d (fun h1 => ?_) (fun h1 => ?_)
        · walk_at "rds"
          rw [← piece_of e h1]
          exact q _ s1
        · have e2 : pieceV (.str z) = false := piece_short h1
          rw [e2] at q
          exact q _ s1
      | _ => cases e
    · have e2 : pieceV v = false := by
        cases v with
        | str z =>
          have e : logB z = false := e
          show pieceB z = false
          unfold pieceB
          rw [e]
          rfl
        | _ => rfl
      rw [e2] at q
      exact q _ s1
theorem ok_Book_init (T : Txt P K mg) : FnOk P w K mg base (L2.CX P w) 4 T.a_Book_init T.fd_Book_init ["self", "pieces"] (spBook K T.C_Book T.C_BadBook) := by
  have nd := sc_Book_init.nd
  have G_is_piece : FnOk P w K mg base CX0 2 T.a_is_piece T.fd_is_piece ["thing"] spPiece := ok_is_piece T
  have G_is_piece := G_is_piece.mono (show 2 ≤ 3 by decide)
  have G_BadBook_init : FnOk P w K mg base CX0 2 T.a_BadBook_init T.fd_BadBook_init _ (SPX.spSi T.C_BadBook _) := SPX.si_ok T.S_BadBook_init
  refine T.F_Book_init.okX sc_Book_init (fun vs H Q E h => ?_) (fun cdv A outer s H vs Q E hr h => ?_)
  · obtain ⟨x, b, dx, n, v, rfl, _⟩ := h
    rfl
  · obtain ⟨x, b, dx, n, v, rfl, hb, hd, q, qe⟩ := h
    obtain ⟨t_MOST_PIECES, g_MOST_PIECES⟩ := T.g_MOST_PIECES
    refine ⟨_, (pss_cons (ps_if (PW.pt (pw_or (pt_not (pt_val (pe_callB call_isi (by rfl) T.m_isinstance (by decide +kernel) (pa_cons (pv 1) (pa_cons (pe_bltn (v := .ty "tuple") (by rfl) T.m_tuple (by decide +kernel) rfl) pa_nil))))) (pw_or1 (pt_not (pt_chain op_le op_le pe_int (pe_callB call_len (by rfl) T.m_len PySem.boot_len (pa_cons (pv 1) pa_nil)) (pe_glob (v := .int 12) (by rfl) g_MOST_PIECES ⟨_, rfl⟩))))))
    (pss_one (ps_raise rfl (takes_of rfl rfl rfl rfl) (pmk_oex T.xc_BadBook T.ii_BadBook T.ti_BadBook G_BadBook_init hr T.b_BadBook_init .nil pass0 (by rfl) T.g_BadBook (pa_cons pe_str pa_nil))))
    pss_nil)
  (pss_cons (ps_for (passes_of rfl) rfl (NR.pi_enumT (by rfl) T.m_enumerate (pa_cons (pv 1) pa_nil)) (pg_tup rfl (pgs_cons (pg_name (i := 2) nd rfl (by first | exact Or.inl rfl | exact Or.inr rfl)) (pgs_cons (pg_name (i := 3) nd rfl (by first | exact Or.inl rfl | exact Or.inr rfl)) pgs_nil)))
    (pss_one (ps_if (PW.pt (pw_or (pt_not (pt_val (pe_call G_is_piece hr (by rfl) T.g_is_piece T.F_is_piece.kp T.b_is_piece .nil pass0 (pa_cons (pv 3) pa_nil)))) (pw_or1 (pt_cmpR op_in_seq (pv 3) (pe_slice sl_tupA (pv 1) po_none (po_some (pv 2))) (by first | rfl | exact nomark _)))))
    (pss_one (ps_raise rfl (takes_of rfl rfl rfl rfl) (pmk_oex T.xc_BadBook T.ii_BadBook T.ti_BadBook G_BadBook_init hr T.b_BadBook_init .nil pass0 (by rfl) T.g_BadBook (pa_cons (pv 2) pa_nil))))
    pss_nil)))
  (pss_one (ps_fld (pv 0) (pv 1) rfl)))), ?_⟩
    obtain ⟨k, hk⟩ := hd.kd (K := K)
    walk_at "rds"
    refine RD.ite_nd (fun ne => ?_) (fun e => ?_)
    · walk_at "rds"
      exact RB.mkOV fun d H' hd1 s1 hx => qe _ _ _ (.kind hk ne) (fun z => nomatch z) hd1 s1 hx
    · subst e
      cases hk with
      | @tup t xs ht =>
        have bad : ¬ (1 ≤ xs.length ∧ xs.length ≤ 12) → ∀ d H', H d = none → Same H H' → H' d = some (.xd [("part", .str "pieces")]) → E (.ref T.C_BadBook) (some d) H' := fun z d H' h1 h2 h3 => qe _ _ _ (.len ht z) (fun z => nomatch z) h1 h2 h3
        walk_at "rds"
        refine RD.ite_d (fun h1 => ?_) (fun h1 => ?_)
        · walk_at "rds"
          refine RD.ite_nd (fun h2 => ?_) (fun h2 => ?_)
          · walk_at "rds"
            exact RB.mkOV fun d H' hd1 s1 hx => bad (by omega) _ _ hd1 s1 hx
          · walk_at "rds"
            have hall : ∀ y, y ∈ xs → ∃ m, SPD.Dq x H m y := by
              cases hd with
              | leaf e => cases e
              | dct ne h0 _ _ =>
                rw [h0] at ht
                cases ht
              | tup ne h0 hl hall =>
                rw [h0] at ht
                cases ht
                exact fun y hy => ⟨_, hall y hy⟩
              | lst ne h0 hl hall =>
                rw [h0] at ht
                cases ht
            have told : ∀ r, dueL [] xs = r → DueR K H (.ref t) r := fun r e => e ▸ .due ht (by omega) (by omega)
            refine RD.forW (NR.w_enumT (xs := xs)) (fun i σ H' => ∃ acc rest x2 x3, σ = [some (.ref b), some (.ref t), x2, x3] ∧ xs = acc.map V.str ++ rest ∧ acc.length = i ∧ dueL [] xs = dueL acc rest ∧ Same H H')
              ⟨[], xs, _, _, rfl, rfl, rfl, rfl, Same.refl _⟩ (fun i σ H' _ ⟨acc, rest, x2, x3, _, _, _, _, s⟩ => by walk_at "st") (fun i y σ H2 H3 hi hp hy => ?_) (fun σ H2 hp => ?_)
            · obtain ⟨acc, rest, x2, x3, rfl, he, hl, hde, s2⟩ := hp
              obtain ⟨T1, x1, y1, rfl, hT, s3, hv3, hx1, hy1⟩ := hy
              obtain rfl : V.int (i : Nat) = x1 := Option.some.inj hx1
              have hy1 : xs[i]? = some y1 := hy1
              obtain ⟨r, rfl⟩ := rest_head he hl hy1
              obtain ⟨m, hdy⟩ := hall y1 (List.mem_of_getElem? hy1)
              have s23 := s2.trans s3
              have ht3 := s23 _ _ ht
              have hit : i < 9223372036854775807 := by omega
              clear hx1 hy1
              walk_at "rds"
              refine ⟨x, m, y1, rfl, hdy.same s23, fun H4 s4 => ?_⟩
              have s34 := s23.trans s4
              walk_at "rds"
              refine RD.ite_b (fun e => ?_) (fun e => ?_)
              · have e : pieceV y1 = false := by simpa using e
                walk_at "rds"
                exact RB.mkOV fun d H' hd1 s1 hx => qe (.int (i : Nat)) d H' (told _ (by rw [hde, due_bad e, hl])) (fun z => nomatch z) (s34.free hd1) (s34.trans s1) hx
              · have e : pieceV y1 = true := by simpa using e
                cases y1 with
                | str z =>
                  have e : pieceB z = true := e
                  walk_at "rds"
                  rw [he, cut_acc hl] at hv
                  refine RB.inT (.inr (by walk_at "st")) rfl (flat_acc acc) ?_
                  rw [inV_strs]
                  have s35 := s34.trans hs
                  walk_at "rds"
                  refine RD.ite_b (fun ec => ?_) (fun ec => ?_)
                  · walk_at "rds"
                    exact RB.mkOV fun d H' hd1 s1 hx => qe (.int (i : Nat)) d H' (told _ (by rw [hde, due_twice ec, hl])) (fun z => nomatch z) (s35.free hd1) (s35.trans s1) hx
                  · walk_at "rds"
                    exact ⟨acc ++ [z], r, _, _, rfl, by rw [he, List.map_append, List.append_assoc]; rfl, by rw [List.length_append, hl]; rfl, by rw [hde, due_good e ec], s35⟩
                | _ => cases e
            · obtain ⟨acc, rest, x2, x3, rfl, he, hl, hde, s2⟩ := hp
              have hr0 : rest = [] := by
                have z := congrArg List.length he
                rw [List.length_append, List.length_map] at z
                exact List.eq_nil_of_length_eq_zero (by omega)
              subst hr0
              have hb2 := s2 _ _ hb
              walk_at "rds"
              refine RB.setFV hb2 T.cl_Book T.no_Book_pieces (by decide) fun H' k' h' => ?_
              walk_at "rds"
              exact q _ (told _ hde) (fun c o n e => k' c o n (s2 c o e)) h'
        · walk_at "rds"
          exact RB.mkOV fun d H' hd1 s1 hx => bad (by omega) _ _ hd1 s1 hx
      | _ => exact absurd rfl (by assumption)
end

theorem joinL_nil : ∀ l : List (List Nat), TL.joinL [] l = l.flatten
  | [] => rfl
  | [p] => by simp [TL.joinL]
  | p :: q :: r => by
    have ih := joinL_nil (q :: r)
    show p ++ ([] ++ TL.joinL [] (q :: r)) = _
    rw [ih]
    simp
theorem join_cps (zs : List Str) : (Txt.join ("" : Str) zs).cps.toList = (zs.map fun z => z.cps.toList).flatten := by
  rw [TL.join_eq]
  have e := TL.tl_join ("" : Str) zs
  have e2 : TL.tl ("" : Str) = [] := rfl
  rw [e2, joinL_nil] at e
  exact e
theorem sum_le (k : Nat) : ∀ l : List Str, (∀ y, y ∈ l → y.length ≤ k) → (l.map (·.length)).sum ≤ k * l.length
  | [], _ => Nat.zero_le _
  | y :: r, h => by
    have ih := sum_le k r fun z hz => h z (List.mem_cons_of_mem _ hz)
    have h0 := h y List.mem_cons_self
    rw [List.map_cons, List.sum_cons, List.length_cons, Nat.mul_succ]
    omega
theorem join_size (zs : List Str) : (Txt.join ("" : Str) zs).cps.size = (zs.map (·.length)).sum := by
  rw [← Array.length_toList, join_cps, List.length_flatten, List.map_map]
  rfl
/-- pieces of a book -/
structure Good (zs : List Str) : Prop where
  some : 1 ≤ zs.length
  few : zs.length ≤ 12
  piece : ∀ z, z ∈ zs → pieceB z = true
  once : zs.Nodup
theorem piece_size {z : Str} (h : pieceB z = true) : 1 ≤ z.cps.size ∧ z.cps.size ≤ 8 := by
  unfold pieceB at h
  rw [Bool.and_eq_true, Bool.and_eq_true] at h
  exact ⟨of_decide_eq_true h.2.1, of_decide_eq_true h.2.2⟩
theorem Good.sum {zs : List Str} (g : Good zs) : (zs.map (·.length)).sum ≤ 96 := by
  have h := sum_le 8 zs fun y hy => (piece_size (g.piece y hy)).2
  have := g.few
  omega
theorem due_good_all : ∀ (zs acc : List Str), (∀ z, z ∈ zs → pieceB z = true) → (acc ++ zs).Nodup → dueL acc (zs.map V.str) = .non
  | [], _, _, _ => rfl
  | z :: r, acc, h, nd => by
    have hz : acc.contains z = false := by
      cases c : acc.contains z with
      | false => rfl
      | true => exact absurd rfl ((List.nodup_append.mp nd).2.2 z (List.contains_iff_mem.mp c) z List.mem_cons_self)
    show dueL acc (.str z :: r.map V.str) = .non
    rw [due_good (h z List.mem_cons_self) hz]
    exact due_good_all r (acc ++ [z]) (fun y hy => h y (List.mem_cons_of_mem _ hy)) (by rw [List.append_assoc]; exact nd)
theorem DueR.of {K : PySem.W.Frag} {H : Hp} {t : Addr} {zs : List Str} (ht : H t = some (.tup (zs.map V.str))) (g : Good zs) : DueR K H (.ref t) .non := by
  have h := DueR.due (K := K) ht (by rw [List.length_map]; exact g.some) (by rw [List.length_map]; exact g.few)
  rw [due_good_all zs [] g.piece (by rw [List.nil_append]; exact g.once)] at h
  exact h
theorem DueR.one {K : PySem.W.Frag} {H : Hp} {v r1 r2 : V} (h1 : DueR K H v r1) (h2 : DueR K H v r2) : r1 = r2 := by
  have tupK : ∀ {t : Addr} {xs : List V} {k : SPD.Kd}, H t = some (.tup xs) → SPD.KdOf K H (.ref t) k → k = .tup := fun ht hk => by
    cases hk with
    | dct h => rw [h] at ht; cases ht
    | lst h => rw [h] at ht; cases ht
    | tup h => rfl
  cases h1 with
  | kind a b =>
    cases h2 with
    | kind _ _ => rfl
    | len c _ => exact absurd (tupK c a) b
    | due c _ _ => exact absurd (tupK c a) b
  | len a b =>
    cases h2 with
    | kind _ _ => rfl
    | len _ _ => rfl
    | due c d e =>
      rw [c] at a
      cases a
      exact absurd ⟨d, e⟩ b
  | due a b c =>
    cases h2 with
    | kind d e => exact absurd (tupK a d) e
    | len d e =>
      rw [d] at a
      cases a
      exact absurd ⟨b, c⟩ e
    | due d e f =>
      rw [d] at a
      cases a
      rfl
/-- what is due is no list, no tuple -/
theorem due_kinds : ∀ (xs : List V) (acc : List Str), dueL acc xs = .non ∨ ∃ i : Nat, dueL acc xs = .int i
  | [], _ => .inl rfl
  | x :: r, acc => by
    cases x with
    | str z =>
      show (if (pieceB z && !(acc.contains z)) = true then dueL (acc ++ [z]) r else .int (acc.length : Nat)) = .non ∨ ∃ i : Nat, (if (pieceB z && !(acc.contains z)) = true then dueL (acc ++ [z]) r else .int (acc.length : Nat)) = .int i
      split
      · exact due_kinds r _
      · exact .inr ⟨_, rfl⟩
    | _ => exact .inr ⟨_, rfl⟩
theorem DueR.kinds {K : PySem.W.Frag} {H : Hp} {v r : V} (h : DueR K H v r) : r = .non ∨ r = .str "pieces" ∨ ∃ i : Nat, r = .int i := by
  cases h with
  | kind a b => exact .inr (.inl rfl)
  | len a b => exact .inr (.inl rfl)
  | due a b c => exact (due_kinds _ _).imp id .inr
def spDue (K : PySem.W.Frag) : Sp := fun vs H Q _ => ∃ (x : Addr) (n : Nat) (v : V), vs = [v] ∧ SPD.Dq x H n v ∧ ∀ r H', DueR K H v r → Same H H' → Q r H'
/-- the signs of the pieces, each once, as one text -/
def spOwn : Sp := fun vs H Q _ => ∃ (t : Addr) (zs : List Str), vs = [.ref t] ∧ H t = some (.tup (zs.map V.str)) ∧ (zs.map (·.length)).sum ≤ 4000 ∧ ∀ ys H', SST.Own (Txt.join ("" : Str) zs) ys → Same H H' → Q (.str (Txt.join ("" : Str) ys)) H'
def BookAt (H : Hp) (C b t : Addr) : Prop := ∃ dx, H b = some (.ins C dx [("pieces", .ref t)])
theorem BookAt.same {H H' : Hp} {C b t : Addr} (s : Same H H') (h : BookAt H C b t) : BookAt H' C b t := h.imp fun _ h => s _ _ h
theorem own_small {x : Str} {ys : List Str} (h : SST.Own x ys) (hx : x.cps.size ≤ 4000) : (ys.map (·.length)).sum ≤ 4000 := by
  have h1 : ys.length ≤ 4000 := by
    rw [h.1.length_eq]
    exact Nat.le_trans (SST.mets_len _ _) hx
  have h2 := sum_le 1 ys fun y hy => by
    obtain ⟨j, _, rfl⟩ := (SST.mets_mem _ _ _).mp (h.1.mem_iff.mp hy)
    exact Nat.le_refl _
  omega
theorem same_of_kb {H H1 H2 : Hp} {b : Addr} (s : Same H H1) (hb : H b = none) (k : RD.KB b H1 H2) : Same H H2 := fun c o e => k c o (fun z => by subst z; rw [hb] at e; cases e) (s c o e)

/-! ### the own letters -/
section
variable {P : Program} {w : World} {K : PySem.W.Frag} {mg : Str → Option Value} {base : Heap}
theorem ok_own (T : Txt P K mg) : FnOk P w K mg base CX0 1 T.a_own T.fd_own ["_law_pieces"] spOwn := by
  have nd := sc_own.nd
  refine T.F_own.ok sc_own (fun vs H Q E h => ?_) (fun cdv A outer s H vs Q E hr h => ?_)
  · obtain ⟨t, zs, rfl, _⟩ := h
    rfl
  · obtain ⟨t, zs, rfl, ht, hz, q⟩ := h
    refine ⟨_, (pss_one (ps_ret (pe_join pe_str (SST.pe_ss (by rfl) T.m_sorted (by rfl) T.m_set (pe_join pe_str (pv 0)))))), ?_⟩
    walk_at "rds"
    refine RB.joinV (.inr (by walk_at "st")) (by show _ + _ * 0 ≤ _; omega) ?_
    refine RB.ssV (by rw [join_size]; exact hz) fun ys p H1 ho hp s1 hv => ?_
    walk_at "rds"
    refine RB.joinV (.inl (by walk_at "sq")) (by have := own_small ho (by rw [join_size]; exact hz); show _ + _ * 0 ≤ _; omega) ?_
    exact q _ _ ho s1
end

/-! ### texts -/
theorem str_ext {a b : Str} (h : a.cps.toList = b.cps.toList) : a = b := by
  cases a
  cases b
  exact congrArg Str.mk (Array.ext' h)
theorem app_list (a b : Str) : (a ++ b).cps.toList = a.cps.toList ++ b.cps.toList := Array.toList_append
theorem app_size (a b : Str) : (a ++ b).cps.size = a.cps.size + b.cps.size := by
  rw [← Array.length_toList, app_list, List.length_append, Array.length_toList, Array.length_toList]
theorem cut_list (z : Str) (lo hi : Option Int) : (cutS z lo hi).cps.toList = (z.cps.toList.drop (HT.sIx z.length 0 lo)).take (HT.sIx z.length z.length hi - HT.sIx z.length 0 lo) := rfl
theorem cut_size (z : Str) (lo hi : Option Int) : (cutS z lo hi).cps.size ≤ z.cps.size := by
  rw [← Array.length_toList, cut_list, List.length_take, List.length_drop, Array.length_toList]
  omega
end K27

namespace K27
open PySem PySem.Spec PyProof.Rows L2
local macro_rules | `(tactic| walk_at "kd") => `(tactic| first | assumption | exact SPD.KdOf.int _ | exact SPD.KdOf.str _ | exact SPD.KdOf.bl _ | exact SPD.KdOf.non | exact SPD.KdOf.same (by assumption) (by walk_at "kd") | exact SPD.KdOf.tup (by walk_at "hp") | exact SPD.KdOf.lst (by walk_at "hp") | fail "no")
local macro_rules | `(tactic| walk_at "ne") => `(tactic| first | assumption | exact Ne.symm (by assumption) | fail "no")
local macro_rules | `(tactic| walk_at "hp") => `(tactic| first | assumption | exact RD.at_same (by assumption) (by walk_at "hp") | exact RD.at_kb (by assumption) (by walk_at "ne") (by walk_at "hp") | fail "no")
local macro_rules | `(tactic| walk_at "sq") => `(tactic| first | assumption | exact Or.inl (Or.inl (by walk_at "hp")) | exact Same.seq (by assumption) (by walk_at "sq") | exact RD.KB.seq (by assumption) (by walk_at "ne") (by walk_at "sq") | fail "no")
local macro_rules | `(tactic| walk_at "st") => `(tactic| first | assumption | exact Or.inl (Or.inl (by walk_at "hp")) | exact RD.Same.tup (by assumption) (by walk_at "st") | exact RD.KB.tup (by assumption) (by walk_at "ne") (by walk_at "st") | fail "no")
local macro_rules | `(tactic| walk_at "rd") => `(tactic| first
  | with_reducible refine RD.c ?_
  | ((with_reducible refine' RD.var ?rdE ?rdK); (case rdE => exact rfl))
  | with_reducible refine RD.op ?_
  | with_reducible refine RD.un ?_
  | with_reducible refine RD.nil ?_
  | with_reducible refine RD.cons ?_
  | with_reducible refine RD.cb ?_
  | with_reducible refine RD.call ?_
  | with_reducible refine RD.test ?_
  | with_reducible refine RD.tb' ?_
  | with_reducible refine RD.bl ?_
  | with_reducible refine RD.and' ?_
  | with_reducible refine RD.or' ?_
  | with_reducible refine RD.not' ?_
  | with_reducible refine RD.andV ?_
  | with_reducible refine RD.orV ?_
  | with_reducible refine RD.notV ?_
  | with_reducible refine RD.ife ?_
  | with_reducible refine RD.sl ?_
  | with_reducible refine RD.part ?_
  | with_reducible refine RD.noPart ?_
  | with_reducible refine RD.partI ?_
  | with_reducible refine RD.rd0 ?_
  | with_reducible refine RD.rdU ?_
  | ((with_reducible refine' RD.rdEq ?rdE ?rdK); (case rdE => rfl))
  | ((with_reducible refine' RD.rdNe ?rdE ?rdK); (case rdE => rfl))
  | ((with_reducible refine' RD.ixL ?rdH ?rdE ?rdK); (case rdH => walk_at "sq"); (case rdE => first | rfl | assumption))
  | ((with_reducible refine' RD.rdI ?rdC ?rdK); (case rdC => first | assumption | (show (0 : Int) < _; first | decide | omega) | exact ⟨by decide, by decide⟩ | exact ⟨by assumption, by assumption⟩ | exact .inr ⟨by decide, by decide⟩ | exact .inl ⟨by decide, by decide⟩ | exact ⟨by decide, by decide, by decide⟩ | exact .inl ⟨by omega, by omega⟩))
  | ((with_reducible refine' RD.setL ?rdH ?rdE ?rdK); (case rdH => walk_at "hp"); (case rdE => rfl); intro $(Lean.mkIdent `H'):ident $(Lean.mkIdent `hk):ident $(Lean.mkIdent `hv):ident)
  | ((with_reducible refine' RD.irng1V ?rdA ?rdB ?rdK); (case rdA => first | decide | omega); (case rdB => first | decide | omega))
  | with_reducible refine RD.int1 ?_
  | with_reducible refine RD.abs1 ?_
  | ((with_reducible refine' RD.len ?rdH ?rdK); (case rdH => first | exact Or.inl (by walk_at "sq") | exact Or.inr (by walk_at "st")))
  | with_reducible refine RD.tup ?_
  | with_reducible refine RD.lst ?_
  | with_reducible refine RD.ite1 ?_
  | with_reducible refine RD.ite0 ?_
  | with_reducible refine RD.ite1n ?_
  | with_reducible refine RD.ite0n ?_
  | with_reducible refine RD.seq ?_
  | with_reducible refine RD.asg ?_
  | with_reducible refine RD.name ?_
  | with_reducible refine RD.ret ?_
  | with_reducible refine RD.drop ?_
  | with_reducible refine RD.next ?_
  | with_reducible refine RD.ifs ?_
  | with_reducible refine RD.par ?_
  | with_reducible refine RD.par2 ?_
  | with_reducible refine RD.sub ?_
  | with_reducible refine RD.gcons ?_
  | with_reducible refine RD.gnil ?_
  | with_reducible refine RD.bm ?_
  | ((with_reducible refine' RD.bmL ?rdH ?rdK); (case rdH => walk_at "sq"))
  | ((with_reducible refine' RD.newZ ?rdH ?rdK); (case rdH => exact RD.sz _); intro $(Lean.mkIdent `p'):ident $(Lean.mkIdent `H'):ident $(Lean.mkIdent `hp):ident $(Lean.mkIdent `hs):ident $(Lean.mkIdent `hv):ident; (try have $(Lean.mkIdent `hn):ident := hand_ne $(Lean.mkIdent `hp):ident (by walk_at "hk")))
  | with_reducible refine RD.fors ?_
  | with_reducible refine RD.lc ?_
  | with_reducible refine RD.yes ?_
  | with_reducible refine RD.ilist ?_
  | ((with_reducible refine' RD.ilistV ?rdH ?rdK); (case rdH => walk_at "sq"))
  | with_reducible refine RD.itup ?_
  | ((with_reducible refine' RD.itupV ?rdH ?rdK); (case rdH => walk_at "st"))
  | with_reducible refine RD.irng1 ?_
  | with_reducible refine RD.irng2 ?_
  | ((with_reducible refine' RD.irng2V ?rdA ?rdK); (case rdA => first | decide | omega))
  | with_reducible refine RD.ienum ?_
  | ((with_reducible refine' RD.ienumV ?rdH ?rdK); (case rdH => walk_at "sq"))
  | with_reducible refine RD.izip ?_
  | ((with_reducible refine' RD.izipV ?rdH ?rdE ?rdK); (case rdH => walk_at "sq"); (case rdE => walk_at "sq"))
  | with_reducible refine SPD.izipA ?_
  | with_reducible refine RD.istr ?_
  | with_reducible refine RD.istrV ?_
  | ((with_reducible refine' RD.slL ?rdH ?rdK); (case rdH => walk_at "sq"); intro $(Lean.mkIdent `p'):ident $(Lean.mkIdent `H'):ident $(Lean.mkIdent `hp):ident $(Lean.mkIdent `hs):ident $(Lean.mkIdent `hv):ident; (try have $(Lean.mkIdent `hn):ident := hand_ne $(Lean.mkIdent `hp):ident (by walk_at "hk")))
  | ((with_reducible refine' RD.cat ?rdH ?rdE ?rdZ ?rdK); (case rdH => walk_at "hp"); (case rdE => walk_at "hp"); (case rdZ => exact RD.sz _); intro $(Lean.mkIdent `p'):ident $(Lean.mkIdent `H'):ident $(Lean.mkIdent `hp):ident $(Lean.mkIdent `hs):ident $(Lean.mkIdent `hv):ident; (try have $(Lean.mkIdent `hn):ident := hand_ne $(Lean.mkIdent `hp):ident (by walk_at "hk")))
  | ((with_reducible refine' RD.gtup ?rdH ?rdE ?rdK); (case rdH => walk_at "st"); (case rdE => rfl))
  | ((with_reducible refine' RD.app ?rdH ?rdZ ?rdK); (case rdH => walk_at "hp"); (case rdZ => first | assumption | (apply RD.szl; omega)); intro $(Lean.mkIdent `H'):ident $(Lean.mkIdent `hk):ident $(Lean.mkIdent `hv):ident)
  | ((with_reducible refine' RD.all1 ?rdH ?rdK); (case rdH => walk_at "sq"))
  | ((with_reducible refine' RD.any1 ?rdH ?rdK); (case rdH => walk_at "sq"))
  | ((with_reducible refine' SPD.dnew ?rdK); intro $(Lean.mkIdent `p'):ident $(Lean.mkIdent `H'):ident $(Lean.mkIdent `hp):ident $(Lean.mkIdent `hs):ident $(Lean.mkIdent `hv):ident; (try have $(Lean.mkIdent `hn):ident := hand_ne $(Lean.mkIdent `hp):ident (by walk_at "hk")))
  | ((with_reducible refine' SPD.disp1 ?rdK); intro $(Lean.mkIdent `p'):ident $(Lean.mkIdent `H'):ident $(Lean.mkIdent `hp):ident $(Lean.mkIdent `hs):ident $(Lean.mkIdent `hv):ident; (try have $(Lean.mkIdent `hn):ident := hand_ne $(Lean.mkIdent `hp):ident (by walk_at "hk")))
  | ((with_reducible refine' SPD.isSeq ?rdH ?rdE ?rdK); (case rdH => walk_at "hp"); (case rdE => walk_at "kd"))
  | ((with_reducible refine' SPD.isTup ?rdE ?rdK); (case rdE => walk_at "kd"))
  | ((with_reducible refine' SPD.isLst ?rdE ?rdK); (case rdE => walk_at "kd"))
  | ((with_reducible refine' SPD.isBool ?rdE ?rdK); (case rdE => walk_at "kd"))
  | ((with_reducible refine' SPD.isStr ?rdE ?rdK); (case rdE => walk_at "kd"))
  | ((with_reducible refine' SPD.isInt ?rdE ?rdK); (case rdE => walk_at "kd"))
  | dsimp only)
local macro_rules | `(tactic| walk_at "rds") => `(tactic| repeat walk_at "rd")
local macro_rules | `(tactic| walk_at "sm") => `(tactic| first | assumption | exact Same.refl _ | exact RD.sm_tr (by assumption) (by walk_at "sm") | fail "no")
local macro_rules | `(tactic| walk_at "kb") => `(tactic| first | assumption | exact RD.KB.refl | exact RD.kb_tr (by assumption) (by walk_at "kb") | exact RD.kb_trs (by assumption) (by walk_at "kb") | fail "no")
local macro_rules | `(tactic| walk_at "fr") => `(tactic| first | assumption | exact RD.fr_of (by assumption) (by walk_at "sm") | fail "no")
local macro_rules | `(tactic| walk_at "hk") => `(tactic| first | assumption | exact hand_same (by assumption) (by walk_at "hk") | exact hand_kb (by assumption) (by walk_at "fr") (by walk_at "hk") | fail "no")
local macro_rules | `(tactic| walk_at "na") => `(tactic| first | assumption | exact hand_ne (by assumption) (by walk_at "hk") | fail "no")
local macro_rules | `(tactic| walk_at "dqa") => `(tactic| first | exact SPD.DqA.nil | exact SPD.DqA.cons (by walk_at "dq") (by walk_at "dqa") | exact SPD.DqA.app (by walk_at "dqa") (by walk_at "dqa") | fail "no")
local macro_rules | `(tactic| walk_at "dq") => `(tactic| first | assumption | exact SPD.Dq.leaf rfl | exact SPD.dq_kb (by assumption) (by walk_at "kb") | exact SPD.dqTup (by walk_at "hp") (by walk_at "na") (by walk_at "dqa") | exact SPD.dqLst (by walk_at "hp") (by walk_at "na") (by walk_at "dqa") | exact SPD.dqNil (by walk_at "hp") (by walk_at "na") (by first | decide | simp) (by first | decide | simp) | fail "no")

local macro_rules | `(tactic| walk_at "rd") => `(tactic| first
  | with_reducible refine RB.chain ?_
  | with_reducible refine RB.m1 ?_
  | with_reducible refine RB.strE ?_
  | with_reducible refine RB.fld ?_
  | with_reducible refine RB.setF ?_
  | with_reducible refine RB.ss ?_
  | with_reducible refine RB.rev ?_
  | with_reducible refine RB.make ?_
  | with_reducible refine RB.makeS ?_
  | with_reducible refine RB.mkO ?_
  | with_reducible refine NR.ienumT ?_
  | with_reducible refine RB.inS ?_
  | with_reducible refine RB.bmS ?_
  | with_reducible refine RB.callS ?_
  | with_reducible refine RB.sw3 ?_
  | with_reducible refine RB.par3 ?_
  | with_reducible refine RB.par3V ?_
  | ((with_reducible refine' RB.slS ?rdH ?rdK); (case rdH => walk_at "sz"))
  | with_reducible refine RB.xf ?_
  | ((with_reducible refine' RB.xfV ?rdH ?rdE ?rdK); (case rdH => walk_at "hp"); (case rdE => rfl))
  | ((with_reducible refine' NR.ienumTV ?rdH ?rdK); (case rdH => walk_at "st"))
  | ((with_reducible refine' RB.lenL ?rdH ?rdK); (case rdH => walk_at "sq"))
  | ((with_reducible refine' RB.lenT ?rdH ?rdK); (case rdH => walk_at "st"))
  | ((with_reducible refine' RB.lenS ?rdH ?rdK); (case rdH => walk_at "sz"))
  | ((with_reducible refine' RD.lenS ?rdH ?rdK); (case rdH => walk_at "sz"))
  | ((with_reducible refine' RB.slT ?rdH ?rdK); (case rdH => walk_at "hp"); intro $(Lean.mkIdent `p'):ident $(Lean.mkIdent `H'):ident $(Lean.mkIdent `hs):ident $(Lean.mkIdent `hv):ident $(Lean.mkIdent `hp):ident; (try have $(Lean.mkIdent `hn):ident := two_ne $(Lean.mkIdent `hp):ident (by walk_at "na") (by walk_at "hk")))
  | ((with_reducible refine' RB.revV ?rdH ?rdK); (case rdH => walk_at "st"); intro $(Lean.mkIdent `p'):ident $(Lean.mkIdent `H'):ident $(Lean.mkIdent `hp):ident $(Lean.mkIdent `hs):ident $(Lean.mkIdent `hv):ident; (try have $(Lean.mkIdent `hn):ident := hand_ne $(Lean.mkIdent `hp):ident (by walk_at "hk")))
  | ((with_reducible refine' RB.listS ?rdH ?rdK); (case rdH => walk_at "sz"); intro $(Lean.mkIdent `p'):ident $(Lean.mkIdent `H'):ident $(Lean.mkIdent `hp):ident $(Lean.mkIdent `hs):ident $(Lean.mkIdent `hv):ident; (try have $(Lean.mkIdent `hn):ident := hand_ne $(Lean.mkIdent `hp):ident (by walk_at "hk")))
  | ((with_reducible refine' RB.listO ?rdH ?rdK); (case rdH => first | exact Or.inl (by walk_at "sq") | exact Or.inr (by walk_at "st")); intro $(Lean.mkIdent `p'):ident $(Lean.mkIdent `H'):ident $(Lean.mkIdent `hp):ident $(Lean.mkIdent `hs):ident $(Lean.mkIdent `hv):ident; (try have $(Lean.mkIdent `hn):ident := hand_ne $(Lean.mkIdent `hp):ident (by walk_at "hk")))
  | ((with_reducible refine' RB.tupL ?rdH ?rdK); (case rdH => walk_at "sq"); intro $(Lean.mkIdent `p'):ident $(Lean.mkIdent `H'):ident $(Lean.mkIdent `hp):ident $(Lean.mkIdent `hs):ident $(Lean.mkIdent `hv):ident; (try have $(Lean.mkIdent `hn):ident := hand_ne $(Lean.mkIdent `hp):ident (by walk_at "hk")))
  | ((with_reducible refine' RB.catT ?rdH ?rdE ?rdZ ?rdK); (case rdH => walk_at "hp"); (case rdE => walk_at "hp"); (case rdZ => exact RB.LN.sum (by walk_at "ln") (by walk_at "ln") rfl); intro $(Lean.mkIdent `p'):ident $(Lean.mkIdent `H'):ident $(Lean.mkIdent `hs):ident $(Lean.mkIdent `hv):ident $(Lean.mkIdent `hp):ident; (try have $(Lean.mkIdent `hn):ident := three_ne $(Lean.mkIdent `hp):ident (by walk_at "na") (by walk_at "na") (by walk_at "hk")))
  | fail "no")
local macro_rules | `(tactic| walk_at "ln") => `(tactic| first | with_reducible assumption | exact RB.LN.cut (by walk_at "ln") | exact RB.LN.app (by walk_at "ln") (by walk_at "ln") | exact RB.LN.rev (by walk_at "ln") | exact RB.LN.rep (by walk_at "ln") | exact RB.LN.lit rfl | fail "no")
local macro_rules | `(tactic| walk_at "sz") => `(tactic| first | assumption | exact RD.sz _ | fail "no")

local macro_rules | `(tactic| walk_at "hp") => `(tactic| first | assumption | exact RD.at_same (by assumption) (by walk_at "hp") | exact SPE.at_kx (by assumption) (by walk_at "na") (by walk_at "hp") | exact RD.at_kb (by assumption) (by walk_at "ne") (by walk_at "hp") | fail "no")
local macro_rules | `(tactic| walk_at "sq") => `(tactic| first | assumption | exact Or.inl (Or.inl (by walk_at "hp")) | exact Same.seq (by assumption) (by walk_at "sq") | exact SPE.KX.seq (by assumption) (by walk_at "na") (by walk_at "sq") | exact RD.KB.seq (by assumption) (by walk_at "ne") (by walk_at "sq") | fail "no")
local macro_rules | `(tactic| walk_at "st") => `(tactic| first | assumption | exact Or.inl (Or.inl (by walk_at "hp")) | exact RD.Same.tup (by assumption) (by walk_at "st") | exact SPE.KX.tup (by assumption) (by walk_at "na") (by walk_at "st") | exact RD.KB.tup (by assumption) (by walk_at "ne") (by walk_at "st") | fail "no")
local macro_rules | `(tactic| walk_at "kx") => `(tactic| first | assumption | exact SPE.KX.refl | exact SPE.kx_tr (by assumption) (by walk_at "kx") | exact SPE.kx_trs (by assumption) (by walk_at "kx") | fail "no")
local macro_rules | `(tactic| walk_at "dqa") => `(tactic| first | exact SPE.DqA.nil | exact SPE.DqA.cons (by walk_at "dq") (by walk_at "dqa") | exact SPE.DqA.app (by walk_at "dqa") (by walk_at "dqa") | fail "no")
local macro_rules | `(tactic| walk_at "dq") => `(tactic| first | assumption | exact SPE.Dq.leaf rfl | exact SPE.dq_kx (by assumption) (by walk_at "kx") | exact SPE.dqTup (by walk_at "hp") (by walk_at "na") (by walk_at "dqa") | exact SPE.dqLst (by walk_at "hp") (by walk_at "na") (by walk_at "dqa") | exact SPE.dqNil (by walk_at "hp") (by walk_at "na") (by first | decide | simp) (by first | decide | simp) | fail "no")
local macro_rules | `(tactic| walk_at "dqx") => `(tactic| first | exact $(Lean.mkIdent `hdb):ident _ (by walk_at "kx") | exact SPE.DqA.cons (SPE.dq_kx (by assumption) (by walk_at "kx")) SPE.DqA.nil | exact SPE.DqA.cons (SPE.Dq.leaf rfl) SPE.DqA.nil | exact SPE.DqA.nil | (with_reducible refine SPE.dqa_cut ?_; walk_at "dqx") | (with_reducible refine SPE.dqa_rev ?_; walk_at "dqx") | (with_reducible refine SPE.DqA.app ?_ ?_ <;> walk_at "dqx") | fail "no")
local macro_rules | `(tactic| walk_at "dqz") => `(tactic| first | exact SPE.dqTupN (by walk_at "hp") (by walk_at "na") (by walk_at "dqx") (by walk_at "ln") rfl | exact SPE.dqLstN (by walk_at "hp") (by walk_at "na") (by walk_at "dqx") (by walk_at "ln") rfl | fail "no")
local macro_rules | `(tactic| walk_at "rd") => `(tactic| first
  | with_reducible refine SPE.revs ?_
  | ((with_reducible refine' SPE.revsV ?rdH ?rdK); (case rdH => walk_at "sz"))
  | ((with_reducible refine' SPE.sum1 ?rdH ?rdK); (case rdH => walk_at "sq"))
  | fail "no")

local macro_rules | `(tactic| walk_at "rd") => `(tactic| first
  | ((with_reducible refine' RB.listO ?rdH ?rdK); (case rdH => exact Or.inr (by walk_at "st")); intro $(Lean.mkIdent `p'):ident $(Lean.mkIdent `H'):ident $(Lean.mkIdent `hp):ident $(Lean.mkIdent `hs):ident $(Lean.mkIdent `hv):ident; (try have $(Lean.mkIdent `hn):ident := hand_ne $(Lean.mkIdent `hp):ident (by walk_at "hk")))
  | fail "no")

/-! ### pieces over a, b, c -/
def abc : List Nat := [97, 98, 99]
structure RawB (zs : List Str) : Prop where
  some : 1 ≤ zs.length
  few : zs.length ≤ 12
  size : ∀ z, z ∈ zs → 1 ≤ z.cps.size ∧ z.cps.size ≤ 8
  abc : ∀ z, z ∈ zs → ∀ c, c ∈ z.cps.toList → c ∈ abc
  once : zs.Nodup
theorem RawB.sum {zs : List Str} (g : RawB zs) : (zs.map (·.length)).sum ≤ 96 := by
  have h := sum_le 8 zs fun y hy => (g.size y hy).2
  have := g.few
  omega
theorem RawB.pos {zs : List Str} (g : RawB zs) : 1 ≤ (zs.map (·.length)).sum := by
  have h1 := g.some
  match zs, g, h1 with
  | z :: r, g, _ =>
    rw [List.map_cons, List.sum_cons]
    have := (g.size z List.mem_cons_self).1
    have e : z.length = z.cps.size := rfl
    omega
theorem mets_nodup (val : Nat → Str) : ∀ i, (SST.mets val i).Nodup
  | 0 => List.nodup_nil
  | i + 1 => by
    have ih := mets_nodup val i
    show (SST.met (val i) (SST.mets val i)).Nodup
    unfold SST.met
    split
    · exact ih
    · rename_i h
      exact List.nodup_cons.mpr ⟨h, ih⟩
/-- the own letters, one by one -/
theorem own_signs {z : Str} {ys : List Str} (ho : SST.Own z ys) : ∃ cs : List Nat, ys = cs.map (fun c => (⟨#[c]⟩ : Str)) ∧ cs.Nodup ∧ ∀ c, c ∈ cs ↔ c ∈ z.cps.toList := by
  have h1 : ∀ y, y ∈ ys ↔ ∃ j, j < z.cps.size ∧ SST.signs z j = y := fun y => ho.1.mem_iff.trans (SST.mets_mem _ _ _)
  have h2 : ys.Nodup := ho.1.nodup_iff.mpr (mets_nodup _ _)
  have h3 : ∀ (l : List Str), (∀ y, y ∈ l → ∃ j, j < z.cps.size ∧ SST.signs z j = y) → ∃ cs : List Nat, l = cs.map (fun c => (⟨#[c]⟩ : Str)) := by
    intro l
    induction l with
    | nil => exact fun _ => ⟨[], rfl⟩
    | cons y l ih =>
      intro h
      obtain ⟨j, _, e⟩ := h y List.mem_cons_self
      obtain ⟨cs, rfl⟩ := ih fun y hy => h y (List.mem_cons_of_mem _ hy)
      exact ⟨z.cps.getD j 0 :: cs, by rw [List.map_cons, ← e]; rfl⟩
  obtain ⟨cs, rfl⟩ := h3 ys fun y hy => (h1 y).mp hy
  refine ⟨cs, rfl, ?_, fun c => ⟨fun hc => ?_, fun hc => ?_⟩⟩
  · exact (List.pairwise_map.mp h2).imp fun {a b} h e => h (by rw [e])
  · obtain ⟨j, hj, e⟩ := (h1 ⟨#[c]⟩).mp (List.mem_map.mpr ⟨c, hc, rfl⟩)
    have e2 : z.cps.getD j 0 = c := by
      have := congrArg (fun s : Str => s.cps.toList) e
      simpa [SST.signs] using this
    rw [← e2, Array.getD_eq_getD_getElem?, Array.getElem?_eq_getElem hj]
    exact Array.mem_toList_iff.mpr (Array.getElem_mem hj)
  · obtain ⟨j, hj, e⟩ := List.mem_iff_getElem.mp hc
    have hm := (h1 (⟨#[c]⟩ : Str)).mpr ⟨j, by rw [← Array.length_toList]; exact hj, by
      show (⟨#[z.cps.getD j 0]⟩ : Str) = _
      rw [Array.getD_eq_getD_getElem?, Array.getElem?_eq_getElem (by rw [← Array.length_toList]; exact hj)]
      have : z.cps[j]'(by rw [← Array.length_toList]; exact hj) = c := by rw [← e]; simp
      show (⟨#[z.cps[j]'_]⟩ : Str) = _
      rw [this]⟩
    obtain ⟨d, hd, e2⟩ := List.mem_map.mp hm
    have : d = c := by
      have := congrArg (fun s : Str => s.cps.toList) e2
      simpa using this
    rw [← this]
    exact hd
def spMore : Sp := fun vs H Q _ => ∃ (x : SPE.AX) (t : Addr) (zs : List Str) (m : Nat), vs = [.ref x.1, .ref t, .int (m : Nat)] ∧ BagOk H x ∧ H t = some (.tup (zs.map V.str)) ∧ RawB zs ∧ m ≤ 10 ∧
  ∀ (u : Addr) (ws : List Str) H', SPE.KX x H H' → BagOk H' x → H' u = some (.tup (ws.map V.str)) → RawB ws → Q (.ref u) H'
theorem cs_join (cs : List Nat) : (Txt.join ("" : Str) (cs.map fun c => (⟨#[c]⟩ : Str))).cps.toList = cs := by
  rw [join_cps, List.map_map]
  induction cs with
  | nil => rfl
  | cons c cs ih => rw [List.map_cons, List.flatten_cons, ih]; rfl
theorem cs_sum (cs : List Nat) : ((cs.map fun c => (⟨#[c]⟩ : Str)).map (·.length)).sum = cs.length := by
  induction cs with
  | nil => rfl
  | cons a l ih => rw [List.map_cons, List.map_cons, List.sum_cons, ih, List.length_cons, Nat.add_comm]; rfl
section
variable {P : Program} {w : World} {K : PySem.W.Frag} {mg : Str → Option Value} {base : Heap}
theorem ok_more (T : Txt P K mg) : FnOk P w K mg base CX0 3 T.a_more T.fd_more ["_law_bag_here", "_law_pieces", "_law_most"] spMore := by
  have nd := sc_more.nd
  have G_pick : FnOk P w K mg base CX0 2 T.a_pick T.fd_pick ["_law_bag_here", "_law_many"] spPick := (ok_pick T).mono (by decide)
  have G_some : FnOk P w K mg base CX0 2 T.a_some T.fd_some ["_law_bag_here", "_law_things"] (spSome K) := ok_some T
  refine T.F_more.ok sc_more (fun vs H Q E h => ?_) (fun cdv A outer s H vs Q E hr h => ?_)
  · obtain ⟨x, t, zs, m, rfl, _⟩ := h
    rfl
  · obtain ⟨x, t, zs, m, rfl, hh, ht, g, hm, q⟩ := h
    refine ⟨_, (pss_cons (ps_asg (pe_tup (pa_cons (pe_callTy RB.call_listO (by rfl) T.m_list (by decide +kernel) (pa_cons (pv 1) pa_nil)) (pa_cons (SST.pe_ss (by rfl) T.m_sorted (by rfl) T.m_set (pe_join pe_str (pv 1))) pa_nil))) (pg_tup rfl (pgs_cons (pg_name (i := 3) nd rfl (by first | exact Or.inl rfl | exact Or.inr rfl)) (pgs_cons (pg_name (i := 4) nd rfl (by first | exact Or.inl rfl | exact Or.inr rfl)) pgs_nil))))
  (pss_cons (ps_for PassesOwn.never rfl (pi_range1 (by rfl) T.m_range (pa_cons (pe_call G_pick hr (by rfl) T.g_pick T.F_pick.kp T.b_pick .nil pass0 (pa_cons (pv 0) (pa_cons (pe_op op_add (pv 2) pe_int) pa_nil))) pa_nil)) (pg_name (i := 5) nd rfl (by first | exact Or.inl rfl | exact Or.inr rfl))
    (pss_cons (ps_set (i := 6) nd rfl (by first | exact Or.inl rfl | exact Or.inr rfl) (pe_join pe_str (pe_lc (own := [("_law_letter", 7)]) (g := (gName 7)) rfl nd (pi_range1 (by rfl) T.m_range (pa_cons (pe_op op_add pe_int (pe_call G_pick hr (by rfl) T.g_pick T.F_pick.kp T.b_pick .nil pass0 (pa_cons (pv 0) (pa_cons pe_int pa_nil)))) pa_nil)) (blkOk_by (own := [("_law_letter", 7)]) (N := N_more) (sc := defScope s_more) (by decide +kernel)) (fun _ _ _ _ _ => (pg_name (i := 7) nd rfl (Or.inl rfl))) (fun _ _ _ _ _ => pts_nil) (fun _ _ _ _ _ => (pe_call G_some hr (by rfl) T.g_some T.F_some.kp T.b_some .nil pass0 (pa_cons (pv 0) (pa_cons (pv 4) pa_nil)))))))
  (pss_one (ps_if (PW.pt (pw_and (pt_cmpR op_notIn_seq (pv 6) (pv 3) (by first | rfl | exact nomark _)) (pw_and1 (pt_cmpR op_lt (pe_callB call_len_seq (by rfl) T.m_len PySem.boot_len (pa_cons (pv 3) pa_nil)) pe_int (nomark _)))))
    (pss_one (ps_expr (pe_bm PySem.F.plainAttrs_list PySem.F.slot_list_append PySem.F.type_list_append mt_append (pv 3) (pa_cons (pv 6) pa_nil))))
    pss_nil))))
  (pss_one (ps_ret (pe_callTy RB.call_tupO (by rfl) T.m_tuple (by decide +kernel) (pa_cons (pv 3) pa_nil)))))), ?_⟩
    have hsum := g.sum
    have hpos := g.pos
    walk_at "rds"
    have hf0 := hv
    have of := hn
    have sf := hs
    clear hv hn hs
    generalize p' = f at hf0 of hp ⊢
    generalize H' = H1 at hf0 sf ⊢
    have ht1 := sf _ _ ht
    refine RB.joinV (.inr (.inl (.inl ht1))) (by show _ + _ * 0 ≤ _; omega) ?_
    refine RB.ssV (by rw [join_size]; omega) fun ys o H2 ho hpo s2 hvo => ?_
    obtain ⟨cs, rfl, hnd, hcs⟩ := own_signs ho
    have hf2 := s2 _ _ hf0
    have hh2 := (hh.same sf).same s2
    have oo : SPE.Off o x := hand_ne hpo (hh.same sf)
    have nof : f ≠ o := ne_of_none hf0 hpo
    have habc : ∀ c, c ∈ cs → c ∈ abc := fun c hc => by
      have := (hcs c).mp hc
      rw [join_cps] at this
      obtain ⟨l, hl, hcl⟩ := List.mem_flatten.mp this
      obtain ⟨y, hy, rfl⟩ := List.mem_map.mp hl
      exact g.abc y hy c hcl
    have hc1 : 1 ≤ cs.length := by
      have hj : 0 < (Txt.join ("" : Str) zs).cps.toList.length := by rw [Array.length_toList, join_size]; omega
      have := (hcs _).mpr (List.getElem_mem hj)
      exact List.length_pos_of_mem this
    have hc3 : cs.length ≤ 4000 := by
      have := own_small ho (by rw [join_size]; omega)
      rw [cs_sum] at this
      exact this
    have k2 : SPE.KX x H H2 := SPE.kx_of (sf.trans s2)
    have hHf : ∀ b o', H b = some o' → b ≠ f := fun b o' e z => by
      subst z
      rw [hp] at e
      cases e
    clear hp hpo ht1 hf0 sf s2
    walk_at "rds"
    have hh3 := hh2.same hs
    have k3 : SPE.KX x H H' := k2.trans (SPE.kx_of hs)
    have hf3 := hs _ _ hf2
    have ho3 := hs _ _ hvo
    clear hv hs hp hn hf2 hvo hh2 k2
    generalize H' = H3 at hh3 k3 hf3 ho3 ⊢
    refine spPick.mk (E := E0) hh3 (by omega) (by omega) fun n H4 hn0 hn1 k4 hh4 => ?_
    have hf4 := k4 _ _ of hf3
    have ho4 := k4 _ _ oo ho3
    have k04 := k3.trans k4
    clear hf3 ho3 k3 k4 hh3
    walk_at "rds"
    refine RD.forW (walk_range (lo := 0) (n := Int.toNat n)) (fun i σ H' => ∃ (acc : List Str) (x5 x6 x7 : Option V), σ = [some (.ref x.1), some (.ref t), some (.int (m : Nat)), some (.ref f), some (.ref o), x5, x6, x7] ∧ SPE.KX x H H' ∧ BagOk H' x ∧ H' f = some (.lst (acc.map V.str)) ∧ H' o = some (.lst ((cs.map fun c => (⟨#[c]⟩ : Str)).map V.str)) ∧ RawB acc)
      ⟨zs, _, _, _, rfl, k04, hh4, hf4, ho4, g⟩ (fun _ _ _ _ _ => trivial) (fun i v σ H5 H6 hi hp hy => ?_) (fun σ H5 hp => ?_)
    · obtain ⟨acc, x5, x6, x7, rfl, k5, hh5, hf5, ho5, ga⟩ := hp
      obtain ⟨rfl, rfl⟩ := hy
      clear k04 hh4 hf4 ho4
      walk_at "rds"
      refine spPick.mk (E := E0) hh5 (by decide) (by decide) fun r H7 hr0 hr1 k7 hh7 => ?_
      have hf7 := k7 _ _ of hf5
      have ho7 := k7 _ _ oo ho5
      have k07 := k5.trans k7
      clear hf5 ho5 k5 k7 hh5
      walk_at "rds"
      refine RD.lcW (walk_range (lo := 0) (n := Int.toNat (1 + r))) (by omega) fun D H8 hD s8 hv8 => ⟨fun j bs H' => ∃ ds : List Nat, bs = (ds.map fun c => (⟨#[c]⟩ : Str)).map V.str ∧ ds.length = j ∧ (∀ c, c ∈ ds → c ∈ abc) ∧ SPE.KX x H7 H' ∧ BagOk H' x ∧ H' o = some (.lst ((cs.map fun c => (⟨#[c]⟩ : Str)).map V.str)),
        ⟨[], rfl, rfl, fun z hz => (List.not_mem_nil hz).elim, SPE.kx_of s8, hh7.same s8, s8 _ _ ho7⟩, fun _ _ _ _ _ => trivial, fun j v bs H9 H10 Z N hj hp hDa hy hZ hN => ?_, fun bs H9 hp hDa => ?_⟩
      · obtain ⟨ds, rfl, hdl, hda, k9, hh9, ho9⟩ := hp
        obtain ⟨rfl, rfl⟩ := hy
        have nD : SPE.Off D x := hand_ne hD hh7
        have noD : o ≠ D := ne_of_none ho7 hD
        walk_at "rds"
        refine ⟨rfl, ?_⟩
        walk_at "rds"
        have hlc : ((cs.map fun c => (⟨#[c]⟩ : Str)).map V.str).length = cs.length := by rw [List.length_map, List.length_map]
        refine spSome.mk (E := E0) hh9 (.lst oo (.inl (.inl ho9))) (by rw [hlc]; omega) (by rw [hlc]; omega) fun v H11 hv k11 hh11 => ?_
        obtain ⟨y, hy, rfl⟩ := List.mem_map.mp hv
        obtain ⟨c, hc, rfl⟩ := List.mem_map.mp hy
        refine hZ _ _ (k11 _ _ nD hDa) fun H12 k12 hv12 => ⟨ds ++ [c], by rw [List.map_append, List.map_append]; rfl, by rw [List.length_append, hdl]; rfl, fun d hd => ?_, SPE.kx_mut k12 (k9.trans k11) hD, hh11.mut k12 nD, k12 _ _ noD (k11 _ _ oo ho9)⟩
        rcases List.mem_append.mp hd with h | h
        · exact hda d h
        · rw [List.mem_singleton.mp h]
          exact habc c hc
      · obtain ⟨ds, rfl, hdl, hda, k9, hh9, ho9⟩ := hp
        have hf9 := k9 _ _ of hf7
        have k09 := k07.trans k9
        have hjs := join_size (ds.map fun c => (⟨#[c]⟩ : Str))
        have hjl := cs_join ds
        have hsm := cs_sum ds
        clear hf7 ho7 k07 hh7 hD
        walk_at "rds"
        refine RB.joinV (.inl (.inl (.inl hDa))) (by show _ + _ * 0 ≤ _; omega) ?_
        have hz1 : 1 ≤ (Txt.join ("" : Str) (ds.map fun c => (⟨#[c]⟩ : Str))).cps.size ∧ (Txt.join ("" : Str) (ds.map fun c => (⟨#[c]⟩ : Str))).cps.size ≤ 8 := by omega
        generalize Txt.join ("" : Str) (ds.map fun c => (⟨#[c]⟩ : Str)) = z at hjs hjl hz1
        have hlm : (acc.map V.str).length = acc.length := List.length_map ..
        have g12 := ga.few
        have g1 := ga.some
        have hsz : (acc.map V.str).length < sizeLine := RD.szl (by omega)
        clear hDa
        walk_at "rds"
        refine RB.ninT (.inl (.inl (.inl hf9))) rfl (flat_acc acc) ?_
        rw [inV_strs]
        walk_at "rds"
        refine RD.ite_b (fun e => ?_) (fun e => ?_)
        · have e : acc.contains z = false := by simpa using e
          have hzn : z ∉ acc := fun m => by
            rw [List.contains_iff_mem.mpr m] at e
            cases e
          walk_at "rds"
          refine RD.ite_d (fun h2 => ?_) (fun _ => ?_)
          · walk_at "rds"
            refine ⟨acc ++ [z], _, _, _, rfl, fun b o' nb eb => hk b o' (hHf b o' eb) (k09 b o' nb eb), hh9.mut hk of, by rw [hv, List.map_append]; rfl, hk _ _ nof.symm ho9, ⟨by rw [List.length_append]; omega, by rw [List.length_append, List.length_singleton]; omega, fun y hy => ?_, fun y hy => ?_, ?_⟩⟩
            · rcases List.mem_append.mp hy with h | h
              · exact ga.size y h
              · rw [List.mem_singleton.mp h]
                exact hz1
            · rcases List.mem_append.mp hy with h | h
              · exact ga.abc y h
              · rw [List.mem_singleton.mp h, hjl]
                exact hda
            · exact List.nodup_append.mpr ⟨ga.once, by simp, fun a ha b hb e => by
                rw [List.mem_singleton] at hb
                exact hzn (by rw [← hb, ← e]; exact ha)⟩
          · walk_at "rds"
            exact ⟨acc, _, _, _, rfl, k09, hh9, hf9, ho9, ga⟩
        · walk_at "rds"
          exact ⟨acc, _, _, _, rfl, k09, hh9, hf9, ho9, ga⟩
    · obtain ⟨acc, x5, x6, x7, rfl, k5, hh5, hf5, ho5, ga⟩ := hp
      walk_at "rds"
      exact q _ acc _ (by walk_at "kx") (by walk_at "hk") hv ga
end


end K27

namespace K27
open PySem PySem.Spec PyProof.Rows L2
local macro_rules | `(tactic| walk_at "kd") => `(tactic| first | assumption | exact SPD.KdOf.int _ | exact SPD.KdOf.str _ | exact SPD.KdOf.bl _ | exact SPD.KdOf.non | exact SPD.KdOf.same (by assumption) (by walk_at "kd") | exact SPD.KdOf.tup (by walk_at "hp") | exact SPD.KdOf.lst (by walk_at "hp") | fail "no")
local macro_rules | `(tactic| walk_at "ne") => `(tactic| first | assumption | exact Ne.symm (by assumption) | fail "no")
local macro_rules | `(tactic| walk_at "hp") => `(tactic| first | assumption | exact RD.at_same (by assumption) (by walk_at "hp") | exact RD.at_kb (by assumption) (by walk_at "ne") (by walk_at "hp") | fail "no")
local macro_rules | `(tactic| walk_at "sq") => `(tactic| first | assumption | exact Or.inl (Or.inl (by walk_at "hp")) | exact Same.seq (by assumption) (by walk_at "sq") | exact RD.KB.seq (by assumption) (by walk_at "ne") (by walk_at "sq") | fail "no")
local macro_rules | `(tactic| walk_at "st") => `(tactic| first | assumption | exact Or.inl (Or.inl (by walk_at "hp")) | exact RD.Same.tup (by assumption) (by walk_at "st") | exact RD.KB.tup (by assumption) (by walk_at "ne") (by walk_at "st") | fail "no")
local macro_rules | `(tactic| walk_at "rd") => `(tactic| first
  | with_reducible refine RD.c ?_
  | ((with_reducible refine' RD.var ?rdE ?rdK); (case rdE => exact rfl))
  | with_reducible refine RD.op ?_
  | with_reducible refine RD.un ?_
  | with_reducible refine RD.nil ?_
  | with_reducible refine RD.cons ?_
  | with_reducible refine RD.cb ?_
  | with_reducible refine RD.call ?_
  | with_reducible refine RD.test ?_
  | with_reducible refine RD.tb' ?_
  | with_reducible refine RD.bl ?_
  | with_reducible refine RD.and' ?_
  | with_reducible refine RD.or' ?_
  | with_reducible refine RD.not' ?_
  | with_reducible refine RD.andV ?_
  | with_reducible refine RD.orV ?_
  | with_reducible refine RD.notV ?_
  | with_reducible refine RD.ife ?_
  | with_reducible refine RD.sl ?_
  | with_reducible refine RD.part ?_
  | with_reducible refine RD.noPart ?_
  | with_reducible refine RD.partI ?_
  | with_reducible refine RD.rd0 ?_
  | with_reducible refine RD.rdU ?_
  | ((with_reducible refine' RD.rdEq ?rdE ?rdK); (case rdE => rfl))
  | ((with_reducible refine' RD.rdNe ?rdE ?rdK); (case rdE => rfl))
  | ((with_reducible refine' RD.ixL ?rdH ?rdE ?rdK); (case rdH => walk_at "sq"); (case rdE => first | rfl | assumption))
  | ((with_reducible refine' RD.rdI ?rdC ?rdK); (case rdC => first | assumption | (show (0 : Int) < _; first | decide | omega) | exact ⟨by decide, by decide⟩ | exact ⟨by assumption, by assumption⟩ | exact .inr ⟨by decide, by decide⟩ | exact .inl ⟨by decide, by decide⟩ | exact ⟨by decide, by decide, by decide⟩ | exact .inl ⟨by omega, by omega⟩))
  | ((with_reducible refine' RD.setL ?rdH ?rdE ?rdK); (case rdH => walk_at "hp"); (case rdE => rfl); intro $(Lean.mkIdent `H'):ident $(Lean.mkIdent `hk):ident $(Lean.mkIdent `hv):ident)
  | ((with_reducible refine' RD.irng1V ?rdA ?rdB ?rdK); (case rdA => first | decide | omega); (case rdB => first | decide | omega))
  | with_reducible refine RD.int1 ?_
  | with_reducible refine RD.abs1 ?_
  | ((with_reducible refine' RD.len ?rdH ?rdK); (case rdH => first | exact Or.inl (by walk_at "sq") | exact Or.inr (by walk_at "st")))
  | with_reducible refine RD.tup ?_
  | with_reducible refine RD.lst ?_
  | with_reducible refine RD.ite1 ?_
  | with_reducible refine RD.ite0 ?_
  | with_reducible refine RD.ite1n ?_
  | with_reducible refine RD.ite0n ?_
  | with_reducible refine RD.seq ?_
  | with_reducible refine RD.asg ?_
  | with_reducible refine RD.name ?_
  | with_reducible refine RD.ret ?_
  | with_reducible refine RD.drop ?_
  | with_reducible refine RD.next ?_
  | with_reducible refine RD.ifs ?_
  | with_reducible refine RD.par ?_
  | with_reducible refine RD.par2 ?_
  | with_reducible refine RD.sub ?_
  | with_reducible refine RD.gcons ?_
  | with_reducible refine RD.gnil ?_
  | with_reducible refine RD.bm ?_
  | ((with_reducible refine' RD.bmL ?rdH ?rdK); (case rdH => walk_at "sq"))
  | ((with_reducible refine' RD.newZ ?rdH ?rdK); (case rdH => exact RD.sz _); intro $(Lean.mkIdent `p'):ident $(Lean.mkIdent `H'):ident $(Lean.mkIdent `hp):ident $(Lean.mkIdent `hs):ident $(Lean.mkIdent `hv):ident; (try have $(Lean.mkIdent `hn):ident := hand_ne $(Lean.mkIdent `hp):ident (by walk_at "hk")))
  | with_reducible refine RD.fors ?_
  | with_reducible refine RD.lc ?_
  | with_reducible refine RD.yes ?_
  | with_reducible refine RD.ilist ?_
  | ((with_reducible refine' RD.ilistV ?rdH ?rdK); (case rdH => walk_at "sq"))
  | with_reducible refine RD.itup ?_
  | ((with_reducible refine' RD.itupV ?rdH ?rdK); (case rdH => walk_at "st"))
  | with_reducible refine RD.irng1 ?_
  | with_reducible refine RD.irng2 ?_
  | ((with_reducible refine' RD.irng2V ?rdA ?rdK); (case rdA => first | decide | omega))
  | with_reducible refine RD.ienum ?_
  | ((with_reducible refine' RD.ienumV ?rdH ?rdK); (case rdH => walk_at "sq"))
  | with_reducible refine RD.izip ?_
  | ((with_reducible refine' RD.izipV ?rdH ?rdE ?rdK); (case rdH => walk_at "sq"); (case rdE => walk_at "sq"))
  | with_reducible refine SPD.izipA ?_
  | with_reducible refine RD.istr ?_
  | with_reducible refine RD.istrV ?_
  | ((with_reducible refine' RD.slL ?rdH ?rdK); (case rdH => walk_at "sq"); intro $(Lean.mkIdent `p'):ident $(Lean.mkIdent `H'):ident $(Lean.mkIdent `hp):ident $(Lean.mkIdent `hs):ident $(Lean.mkIdent `hv):ident; (try have $(Lean.mkIdent `hn):ident := hand_ne $(Lean.mkIdent `hp):ident (by walk_at "hk")))
  | ((with_reducible refine' RD.cat ?rdH ?rdE ?rdZ ?rdK); (case rdH => walk_at "hp"); (case rdE => walk_at "hp"); (case rdZ => exact RD.sz _); intro $(Lean.mkIdent `p'):ident $(Lean.mkIdent `H'):ident $(Lean.mkIdent `hp):ident $(Lean.mkIdent `hs):ident $(Lean.mkIdent `hv):ident; (try have $(Lean.mkIdent `hn):ident := hand_ne $(Lean.mkIdent `hp):ident (by walk_at "hk")))
  | ((with_reducible refine' RD.gtup ?rdH ?rdE ?rdK); (case rdH => walk_at "st"); (case rdE => rfl))
  | ((with_reducible refine' RD.app ?rdH ?rdZ ?rdK); (case rdH => walk_at "hp"); (case rdZ => first | assumption | (apply RD.szl; omega)); intro $(Lean.mkIdent `H'):ident $(Lean.mkIdent `hk):ident $(Lean.mkIdent `hv):ident)
  | ((with_reducible refine' RD.all1 ?rdH ?rdK); (case rdH => walk_at "sq"))
  | ((with_reducible refine' RD.any1 ?rdH ?rdK); (case rdH => walk_at "sq"))
  | ((with_reducible refine' SPD.dnew ?rdK); intro $(Lean.mkIdent `p'):ident $(Lean.mkIdent `H'):ident $(Lean.mkIdent `hp):ident $(Lean.mkIdent `hs):ident $(Lean.mkIdent `hv):ident; (try have $(Lean.mkIdent `hn):ident := hand_ne $(Lean.mkIdent `hp):ident (by walk_at "hk")))
  | ((with_reducible refine' SPD.disp1 ?rdK); intro $(Lean.mkIdent `p'):ident $(Lean.mkIdent `H'):ident $(Lean.mkIdent `hp):ident $(Lean.mkIdent `hs):ident $(Lean.mkIdent `hv):ident; (try have $(Lean.mkIdent `hn):ident := hand_ne $(Lean.mkIdent `hp):ident (by walk_at "hk")))
  | ((with_reducible refine' SPD.isSeq ?rdH ?rdE ?rdK); (case rdH => walk_at "hp"); (case rdE => walk_at "kd"))
  | ((with_reducible refine' SPD.isTup ?rdE ?rdK); (case rdE => walk_at "kd"))
  | ((with_reducible refine' SPD.isLst ?rdE ?rdK); (case rdE => walk_at "kd"))
  | ((with_reducible refine' SPD.isBool ?rdE ?rdK); (case rdE => walk_at "kd"))
  | ((with_reducible refine' SPD.isStr ?rdE ?rdK); (case rdE => walk_at "kd"))
  | ((with_reducible refine' SPD.isInt ?rdE ?rdK); (case rdE => walk_at "kd"))
  | dsimp only)
local macro_rules | `(tactic| walk_at "rds") => `(tactic| repeat walk_at "rd")
local macro_rules | `(tactic| walk_at "sm") => `(tactic| first | assumption | exact Same.refl _ | exact RD.sm_tr (by assumption) (by walk_at "sm") | fail "no")
local macro_rules | `(tactic| walk_at "kb") => `(tactic| first | assumption | exact RD.KB.refl | exact RD.kb_tr (by assumption) (by walk_at "kb") | exact RD.kb_trs (by assumption) (by walk_at "kb") | fail "no")
local macro_rules | `(tactic| walk_at "fr") => `(tactic| first | assumption | exact RD.fr_of (by assumption) (by walk_at "sm") | fail "no")
local macro_rules | `(tactic| walk_at "hk") => `(tactic| first | assumption | exact hand_same (by assumption) (by walk_at "hk") | exact hand_kb (by assumption) (by walk_at "fr") (by walk_at "hk") | fail "no")
local macro_rules | `(tactic| walk_at "na") => `(tactic| first | assumption | exact hand_ne (by assumption) (by walk_at "hk") | fail "no")
local macro_rules | `(tactic| walk_at "dqa") => `(tactic| first | exact SPD.DqA.nil | exact SPD.DqA.cons (by walk_at "dq") (by walk_at "dqa") | exact SPD.DqA.app (by walk_at "dqa") (by walk_at "dqa") | fail "no")
local macro_rules | `(tactic| walk_at "dq") => `(tactic| first | assumption | exact SPD.Dq.leaf rfl | exact SPD.dq_kb (by assumption) (by walk_at "kb") | exact SPD.dqTup (by walk_at "hp") (by walk_at "na") (by walk_at "dqa") | exact SPD.dqLst (by walk_at "hp") (by walk_at "na") (by walk_at "dqa") | exact SPD.dqNil (by walk_at "hp") (by walk_at "na") (by first | decide | simp) (by first | decide | simp) | fail "no")

local macro_rules | `(tactic| walk_at "rd") => `(tactic| first
  | with_reducible refine RB.chain ?_
  | with_reducible refine RB.m1 ?_
  | with_reducible refine RB.strE ?_
  | with_reducible refine RB.fld ?_
  | with_reducible refine RB.setF ?_
  | with_reducible refine RB.ss ?_
  | with_reducible refine RB.rev ?_
  | with_reducible refine RB.make ?_
  | with_reducible refine RB.makeS ?_
  | with_reducible refine RB.mkO ?_
  | with_reducible refine NR.ienumT ?_
  | with_reducible refine RB.inS ?_
  | with_reducible refine RB.bmS ?_
  | with_reducible refine RB.callS ?_
  | with_reducible refine RB.sw3 ?_
  | with_reducible refine RB.par3 ?_
  | with_reducible refine RB.par3V ?_
  | ((with_reducible refine' RB.slS ?rdH ?rdK); (case rdH => walk_at "sz"))
  | with_reducible refine RB.xf ?_
  | ((with_reducible refine' RB.xfV ?rdH ?rdE ?rdK); (case rdH => walk_at "hp"); (case rdE => rfl))
  | ((with_reducible refine' NR.ienumTV ?rdH ?rdK); (case rdH => walk_at "st"))
  | ((with_reducible refine' RB.lenL ?rdH ?rdK); (case rdH => walk_at "sq"))
  | ((with_reducible refine' RB.lenT ?rdH ?rdK); (case rdH => walk_at "st"))
  | ((with_reducible refine' RB.lenS ?rdH ?rdK); (case rdH => walk_at "sz"))
  | ((with_reducible refine' RD.lenS ?rdH ?rdK); (case rdH => walk_at "sz"))
  | ((with_reducible refine' RB.slT ?rdH ?rdK); (case rdH => walk_at "hp"); intro $(Lean.mkIdent `p'):ident $(Lean.mkIdent `H'):ident $(Lean.mkIdent `hs):ident $(Lean.mkIdent `hv):ident $(Lean.mkIdent `hp):ident; (try have $(Lean.mkIdent `hn):ident := two_ne $(Lean.mkIdent `hp):ident (by walk_at "na") (by walk_at "hk")))
  | ((with_reducible refine' RB.revV ?rdH ?rdK); (case rdH => walk_at "st"); intro $(Lean.mkIdent `p'):ident $(Lean.mkIdent `H'):ident $(Lean.mkIdent `hp):ident $(Lean.mkIdent `hs):ident $(Lean.mkIdent `hv):ident; (try have $(Lean.mkIdent `hn):ident := hand_ne $(Lean.mkIdent `hp):ident (by walk_at "hk")))
  | ((with_reducible refine' RB.listS ?rdH ?rdK); (case rdH => walk_at "sz"); intro $(Lean.mkIdent `p'):ident $(Lean.mkIdent `H'):ident $(Lean.mkIdent `hp):ident $(Lean.mkIdent `hs):ident $(Lean.mkIdent `hv):ident; (try have $(Lean.mkIdent `hn):ident := hand_ne $(Lean.mkIdent `hp):ident (by walk_at "hk")))
  | ((with_reducible refine' RB.listO ?rdH ?rdK); (case rdH => first | exact Or.inl (by walk_at "sq") | exact Or.inr (by walk_at "st")); intro $(Lean.mkIdent `p'):ident $(Lean.mkIdent `H'):ident $(Lean.mkIdent `hp):ident $(Lean.mkIdent `hs):ident $(Lean.mkIdent `hv):ident; (try have $(Lean.mkIdent `hn):ident := hand_ne $(Lean.mkIdent `hp):ident (by walk_at "hk")))
  | ((with_reducible refine' RB.tupL ?rdH ?rdK); (case rdH => walk_at "sq"); intro $(Lean.mkIdent `p'):ident $(Lean.mkIdent `H'):ident $(Lean.mkIdent `hp):ident $(Lean.mkIdent `hs):ident $(Lean.mkIdent `hv):ident; (try have $(Lean.mkIdent `hn):ident := hand_ne $(Lean.mkIdent `hp):ident (by walk_at "hk")))
  | ((with_reducible refine' RB.catT ?rdH ?rdE ?rdZ ?rdK); (case rdH => walk_at "hp"); (case rdE => walk_at "hp"); (case rdZ => exact RB.LN.sum (by walk_at "ln") (by walk_at "ln") rfl); intro $(Lean.mkIdent `p'):ident $(Lean.mkIdent `H'):ident $(Lean.mkIdent `hs):ident $(Lean.mkIdent `hv):ident $(Lean.mkIdent `hp):ident; (try have $(Lean.mkIdent `hn):ident := three_ne $(Lean.mkIdent `hp):ident (by walk_at "na") (by walk_at "na") (by walk_at "hk")))
  | fail "no")
local macro_rules | `(tactic| walk_at "ln") => `(tactic| first | with_reducible assumption | exact RB.LN.cut (by walk_at "ln") | exact RB.LN.app (by walk_at "ln") (by walk_at "ln") | exact RB.LN.rev (by walk_at "ln") | exact RB.LN.rep (by walk_at "ln") | exact RB.LN.lit rfl | fail "no")
local macro_rules | `(tactic| walk_at "sz") => `(tactic| first | assumption | exact RD.sz _ | fail "no")

local macro_rules | `(tactic| walk_at "hp") => `(tactic| first | assumption | exact RD.at_same (by assumption) (by walk_at "hp") | exact SPE.at_kx (by assumption) (by walk_at "na") (by walk_at "hp") | exact RD.at_kb (by assumption) (by walk_at "ne") (by walk_at "hp") | fail "no")
local macro_rules | `(tactic| walk_at "sq") => `(tactic| first | assumption | exact Or.inl (Or.inl (by walk_at "hp")) | exact Same.seq (by assumption) (by walk_at "sq") | exact SPE.KX.seq (by assumption) (by walk_at "na") (by walk_at "sq") | exact RD.KB.seq (by assumption) (by walk_at "ne") (by walk_at "sq") | fail "no")
local macro_rules | `(tactic| walk_at "st") => `(tactic| first | assumption | exact Or.inl (Or.inl (by walk_at "hp")) | exact RD.Same.tup (by assumption) (by walk_at "st") | exact SPE.KX.tup (by assumption) (by walk_at "na") (by walk_at "st") | exact RD.KB.tup (by assumption) (by walk_at "ne") (by walk_at "st") | fail "no")
local macro_rules | `(tactic| walk_at "kx") => `(tactic| first | assumption | exact SPE.KX.refl | exact SPE.kx_tr (by assumption) (by walk_at "kx") | exact SPE.kx_trs (by assumption) (by walk_at "kx") | fail "no")
local macro_rules | `(tactic| walk_at "dqa") => `(tactic| first | exact SPE.DqA.nil | exact SPE.DqA.cons (by walk_at "dq") (by walk_at "dqa") | exact SPE.DqA.app (by walk_at "dqa") (by walk_at "dqa") | fail "no")
local macro_rules | `(tactic| walk_at "dq") => `(tactic| first | assumption | exact SPE.Dq.leaf rfl | exact SPE.dq_kx (by assumption) (by walk_at "kx") | exact SPE.dqTup (by walk_at "hp") (by walk_at "na") (by walk_at "dqa") | exact SPE.dqLst (by walk_at "hp") (by walk_at "na") (by walk_at "dqa") | exact SPE.dqNil (by walk_at "hp") (by walk_at "na") (by first | decide | simp) (by first | decide | simp) | fail "no")
local macro_rules | `(tactic| walk_at "dqx") => `(tactic| first | exact $(Lean.mkIdent `hdb):ident _ (by walk_at "kx") | exact SPE.DqA.cons (SPE.dq_kx (by assumption) (by walk_at "kx")) SPE.DqA.nil | exact SPE.DqA.cons (SPE.Dq.leaf rfl) SPE.DqA.nil | exact SPE.DqA.nil | (with_reducible refine SPE.dqa_cut ?_; walk_at "dqx") | (with_reducible refine SPE.dqa_rev ?_; walk_at "dqx") | (with_reducible refine SPE.DqA.app ?_ ?_ <;> walk_at "dqx") | fail "no")
local macro_rules | `(tactic| walk_at "dqz") => `(tactic| first | exact SPE.dqTupN (by walk_at "hp") (by walk_at "na") (by walk_at "dqx") (by walk_at "ln") rfl | exact SPE.dqLstN (by walk_at "hp") (by walk_at "na") (by walk_at "dqx") (by walk_at "ln") rfl | fail "no")
local macro_rules | `(tactic| walk_at "rd") => `(tactic| first
  | with_reducible refine SPE.revs ?_
  | ((with_reducible refine' SPE.revsV ?rdH ?rdK); (case rdH => walk_at "sz"))
  | ((with_reducible refine' SPE.sum1 ?rdH ?rdK); (case rdH => walk_at "sq"))
  | fail "no")

local macro_rules | `(tactic| walk_at "rd") => `(tactic| first
  | ((with_reducible refine' RB.listO ?rdH ?rdK); (case rdH => exact Or.inr (by walk_at "st")); intro $(Lean.mkIdent `p'):ident $(Lean.mkIdent `H'):ident $(Lean.mkIdent `hp):ident $(Lean.mkIdent `hs):ident $(Lean.mkIdent `hv):ident; (try have $(Lean.mkIdent `hn):ident := hand_ne $(Lean.mkIdent `hp):ident (by walk_at "hk")))
  | fail "no")

local macro_rules | `(tactic| walk_at "dk") => `(tactic| first | exact FR.rd_of (by walk_at "hp") | exact Or.inr ⟨_, by walk_at "hp"⟩ | fail "no")
local macro_rules | `(tactic| walk_at "rd") => `(tactic| first
  | with_reducible refine FR.dget ?_
  | with_reducible refine FR.din ?_
  | with_reducible refine FR.dnotin ?_
  | with_reducible refine FR.dc ?_
  | with_reducible refine FR.ikeys ?_
  | with_reducible refine FR.ivals ?_
  | with_reducible refine FR.bm0 ?_
  | ((with_reducible refine' FR.dinS ?rdH ?rdK); (case rdH => walk_at "dk"))
  | ((with_reducible refine' FR.keysV ?rdH ?rdK); (case rdH => walk_at "hp"))
  | ((with_reducible refine' FR.valsV ?rdH ?rdK); (case rdH => walk_at "hp"))
  | ((with_reducible refine' FR.bmD ?rdH ?rdK); (case rdH => walk_at "hp"))
  | with_reducible refine FR.ckw ?_
  | with_reducible refine FR.dget2 ?_
  | ((with_reducible refine' FR.isdV ?rdH ?rdK); (case rdH => walk_at "dk"))
  | ((with_reducible refine' FR.dg2S ?rdH ?rdK); (case rdH => walk_at "dk"))
  | ((with_reducible refine' FR.lenD ?rdH ?rdK); (case rdH => walk_at "hp"))
  | fail "no")

/-! ### letters called otherwise -/
/-- the new names, by the own letters -/
def nameOf (cs ns : List Nat) (c : Nat) : Nat := (ns[cs.idxOf c]?).getD 0
def mapS (cs ns : List Nat) (z : Str) : Str := ⟨(z.cps.toList.map (nameOf cs ns)).toArray⟩
def kvsOf (cs ns : List Nat) : List (Key × V) := (cs.zip ns).map fun p => (Sum.inr (⟨#[p.1]⟩ : Str), V.str ⟨#[p.2]⟩)
theorem valV_of {cs ns : List Nat} (h : cs.length = ns.length) {c : Nat} (hc : c ∈ cs) : valV (kvsOf cs ns) (Sum.inr (⟨#[c]⟩ : Str)) = some (.str ⟨#[nameOf cs ns c]⟩) := by
  induction cs generalizing ns with
  | nil => cases hc
  | cons a cs ih =>
    cases ns with
    | nil => cases h
    | cons n ns =>
      by_cases e : a = c
      · subst e
        show valV ((Sum.inr (⟨#[a]⟩ : Str), V.str ⟨#[n]⟩) :: _) _ = _
        rw [valV_pos rfl]
        unfold nameOf
        rw [List.idxOf_cons_self]
        rfl
      · have hc2 : c ∈ cs := by
          rcases List.mem_cons.mp hc with e2 | e2
          · exact absurd e2.symm e
          · exact e2
        have ih := ih (ns := ns) (by simpa using h) hc2
        have ek : (Sum.inr (⟨#[a]⟩ : Str) : Key) ≠ Sum.inr (⟨#[c]⟩ : Str) := fun z => e (by
          have z := Sum.inr.inj z
          have := congrArg (fun s : Str => s.cps.toList) z
          simpa using this)
        have e3 : valV (kvsOf (a :: cs) (n :: ns)) (Sum.inr (⟨#[c]⟩ : Str)) = valV (kvsOf cs ns) (Sum.inr (⟨#[c]⟩ : Str)) := by
          unfold valV kvsOf
          rw [List.zip_cons_cons, List.map_cons, List.find?_cons]
          simp only [ek, decide_false]
        rw [e3, ih]
        unfold nameOf
        have ei : (a :: cs).idxOf c = cs.idxOf c + 1 := by
          rw [List.idxOf_cons, show (a == c) = false by simpa using e]
          rfl
        rw [ei]
        rfl
theorem nameOf_mem {cs ns : List Nat} (h : cs.length = ns.length) {c : Nat} (hc : c ∈ cs) : nameOf cs ns c ∈ ns := by
  have hi := List.idxOf_lt_length_of_mem hc
  unfold nameOf
  rw [List.getElem?_eq_getElem (by omega)]
  exact List.getElem_mem _
theorem nameOf_inj {cs ns : List Nat} (h : cs.length = ns.length) (hn : ns.Nodup) {a b : Nat} (ha : a ∈ cs) (hb : b ∈ cs) (e : nameOf cs ns a = nameOf cs ns b) : a = b := by
  have hi := List.idxOf_lt_length_of_mem ha
  have hj := List.idxOf_lt_length_of_mem hb
  unfold nameOf at e
  rw [List.getElem?_eq_getElem (by omega), List.getElem?_eq_getElem (by omega)] at e
  have e : ns[cs.idxOf a] = ns[cs.idxOf b] := e
  have e2 : cs.idxOf a = cs.idxOf b := (List.getElem_inj hn).mp e
  have e3 : cs[cs.idxOf a] = cs[cs.idxOf b] := by simp only [e2]
  rwa [List.getElem_idxOf, List.getElem_idxOf] at e3
theorem mapS_inj {cs ns : List Nat} (h : cs.length = ns.length) (hn : ns.Nodup) {y z : Str} (hy : ∀ c, c ∈ y.cps.toList → c ∈ cs) (hz : ∀ c, c ∈ z.cps.toList → c ∈ cs) (e : mapS cs ns y = mapS cs ns z) : y = z := by
  have e : y.cps.toList.map (nameOf cs ns) = z.cps.toList.map (nameOf cs ns) := by
    have := congrArg (fun s : Str => s.cps.toList) e
    simpa [mapS] using this
  refine str_ext ?_
  generalize y.cps.toList = a at hy e
  generalize z.cps.toList = b at hz e
  induction a generalizing b with
  | nil => cases b with
    | nil => rfl
    | cons _ _ => cases e
  | cons p a ih =>
    cases b with
    | nil => cases e
    | cons q b =>
      rw [List.map_cons, List.map_cons] at e
      injection e with e1 e2
      rw [nameOf_inj h hn (hy p List.mem_cons_self) (hz q List.mem_cons_self) e1, ih (fun c hc => hy c (List.mem_cons_of_mem _ hc)) _ (fun c hc => hz c (List.mem_cons_of_mem _ hc)) e2]
theorem take_succ_kv {cs ns : List Nat} {i c n : Nat} (hc : cs[i]? = some c) (hn : ns.length = i) (nd : cs.Nodup) : putK (kvsOf (cs.take i) ns) (Sum.inr (⟨#[c]⟩ : Str)) (V.str ⟨#[n]⟩) = kvsOf (cs.take (i + 1)) (ns ++ [n]) := by
  have hi := (List.getElem?_eq_some_iff.mp hc).1
  have hno : c ∉ cs.take i := fun hm => by
    obtain ⟨j, hj, e⟩ := List.mem_iff_getElem.mp hm
    rw [List.length_take] at hj
    rw [List.getElem_take] at e
    have e2 := (List.getElem?_eq_some_iff.mp hc).2
    have := (List.getElem_inj (h₀ := by omega) (h₁ := hi) nd).mp (e.trans e2.symm)
    omega
  have hany : ((kvsOf (cs.take i) ns).any fun kv => decide (kv.1 = (Sum.inr (⟨#[c]⟩ : Str) : Key))) = false := by
    rw [List.any_eq_false]
    intro kv hkv
    unfold kvsOf at hkv
    obtain ⟨⟨a, b⟩, hp, rfl⟩ := List.mem_map.mp hkv
    have ha : a ∈ cs.take i := (List.of_mem_zip hp).1
    simp only [decide_eq_true_eq]
    intro e
    have e := Sum.inr.inj e
    have e : a = c := by
      have := congrArg (fun s : Str => s.cps.toList) e
      simpa using this
    exact hno (e ▸ ha)
  unfold putK
  rw [hany, if_neg (by decide)]
  unfold kvsOf
  rw [List.take_add_one, hc, List.zip_append (by rw [List.length_take]; omega), List.map_append]
  rfl
theorem erase_map {α β : Type} (f : α → β) : ∀ (l : List α) (k : Nat), (l.map f).eraseIdx k = (l.eraseIdx k).map f
  | [], _ => rfl
  | _ :: _, 0 => rfl
  | a :: l, k + 1 => by
    show f a :: (l.map f).eraseIdx k = f a :: (l.eraseIdx k).map f
    rw [erase_map f l k]
theorem erase_perm {α : Type} : ∀ {l : List α} {k : Nat} (h : k < l.length), (l[k] :: l.eraseIdx k).Perm l
  | a :: l, 0, _ => List.Perm.refl _
  | a :: l, k + 1, h => (List.Perm.swap _ _ _).trans ((erase_perm (l := l) (k := k) (by simpa using h)).cons a)
theorem pieceB_of {z : Str} (h1 : 1 ≤ z.cps.size) (h8 : z.cps.size ≤ 8) (hl : ∀ c, c ∈ z.cps.toList → c ∈ lets) : pieceB z = true := by
  unfold pieceB logB
  rw [Bool.and_eq_true, Bool.and_eq_true]
  exact ⟨List.all_eq_true.mpr fun c hc => decide_eq_true (hl c hc), decide_eq_true h1, decide_eq_true h8⟩
theorem le3 : ∀ cs : List Nat, cs.Nodup → (∀ c, c ∈ cs → c ∈ abc) → cs.length ≤ 3
  | [], _, _ => by simp
  | [_], _, _ => by simp
  | [_, _], _, _ => by simp
  | [_, _, _], _, _ => by simp
  | a :: b :: c :: d :: r, nd, h => by
    exfalso
    have ha := h a (by simp)
    have hb := h b (by simp)
    have hc := h c (by simp)
    have hd := h d (by simp)
    simp only [abc, List.mem_cons, List.not_mem_nil, or_false] at ha hb hc hd
    simp only [List.nodup_cons, List.mem_cons, not_or] at nd
    obtain ⟨⟨n1, n2, n3, _⟩, ⟨n4, n5, _⟩, ⟨n6, _⟩, _⟩ := nd
    omega
theorem kx_free {x : SPE.AX} {H H' : Hp} {p : Addr} (k : SPE.KX x H H') (o : SPE.Off p x) (n : H' p = none) : H p = none := by
  cases e : H p with
  | none => rfl
  | some u =>
    rw [k _ _ o e] at n
    cases n
theorem revS_list (z : Str) : (SPE.revS z).cps.toList = z.cps.toList.reverse := rfl
theorem revS_size (z : Str) : (SPE.revS z).cps.size = z.cps.size := by
  rw [← Array.length_toList, revS_list, List.length_reverse, Array.length_toList]
theorem good_rev {ws : List Str} (g : Good ws) : Good (ws.map SPE.revS) := by
  refine ⟨by rw [List.length_map]; exact g.some, by rw [List.length_map]; exact g.few, fun z hz => ?_, ?_⟩
  · obtain ⟨y, hy, rfl⟩ := List.mem_map.mp hz
    have hp := g.piece y hy
    have hs := piece_size hp
    refine pieceB_of (by rw [revS_size]; exact hs.1) (by rw [revS_size]; exact hs.2) fun c hc => ?_
    rw [revS_list, List.mem_reverse] at hc
    unfold pieceB logB at hp
    rw [Bool.and_eq_true] at hp
    exact of_decide_eq_true (List.all_eq_true.mp hp.1 c hc)
  · refine List.pairwise_map.mpr (g.once.imp fun {a b} hab e => hab (str_ext ?_))
    have := congrArg (fun s : Str => s.cps.toList) e
    simp only [revS_list] at this
    exact List.reverse_inj.mp this
theorem good_perm {rs ws : List Str} (p : rs.Perm ws) (g : Good ws) : Good rs :=
  ⟨by rw [p.length_eq]; exact g.some, by rw [p.length_eq]; exact g.few, fun z hz => g.piece z (p.mem_iff.mp hz), p.nodup_iff.mpr g.once⟩
def spNamed : Sp := fun vs H Q _ => ∃ (x : SPE.AX) (t : Addr) (zs : List Str), vs = [.ref x.1, .ref t] ∧ BagOk H x ∧ H t = some (.tup (zs.map V.str)) ∧ RawB zs ∧
  ∀ (u : Addr) (ws : List Str) H', SPE.KX x H H' → BagOk H' x → H' u = some (.tup (ws.map V.str)) → Good ws → Q (.ref u) H'
section
variable {P : Program} {w : World} {K : PySem.W.Frag} {mg : Str → Option Value} {base : Heap}
theorem ok_named (T : Txt P K mg) : FnOk P w K mg base CX0 3 T.a_named T.fd_named ["_law_bag_here", "_law_pieces"] spNamed := by
  have nd := sc_named.nd
  have G_pick : FnOk P w K mg base CX0 2 T.a_pick T.fd_pick ["_law_bag_here", "_law_many"] spPick := (ok_pick T).mono (by decide)
  refine T.F_named.ok sc_named (fun vs H Q E h => ?_) (fun cdv A outer s H vs Q E hr h => ?_)
  · obtain ⟨x, t, zs, rfl, _⟩ := h
    rfl
  · obtain ⟨x, t, zs, rfl, hh, ht, g, q⟩ := h
    refine ⟨_, (pss_cons (ps_asg (pe_tup (pa_cons (pe_callTy (RB.call_listS rfl) (by rfl) T.m_list (by decide +kernel) (pa_cons pe_str pa_nil)) (pa_cons pe_dnewK pa_nil))) (pg_tup rfl (pgs_cons (pg_name (i := 2) nd rfl (by first | exact Or.inl rfl | exact Or.inr rfl)) (pgs_cons (pg_name (i := 3) nd rfl (by first | exact Or.inl rfl | exact Or.inr rfl)) pgs_nil))))
  (pss_cons (ps_for PassesOwn.never rfl (pi_list (SST.pe_ss (by rfl) T.m_sorted (by rfl) T.m_set (pe_join pe_str (pv 1)))) (pg_name (i := 4) nd rfl (by first | exact Or.inl rfl | exact Or.inr rfl))
    (pss_one (ps_asg (pe_bm PySem.F.plainAttrs_list PySem.F.slot_list_pop PySem.F.type_list_pop mt_popAt (pv 2) (pa_cons (pe_call G_pick hr (by rfl) T.g_pick T.F_pick.kp T.b_pick .nil pass0 (pa_cons (pv 0) (pa_cons (pe_ifExp (pt_cmpR op_gt (pe_call G_pick hr (by rfl) T.g_pick T.F_pick.kp T.b_pick .nil pass0 (pa_cons (pv 0) (pa_cons pe_int pa_nil))) pe_int (nomark _)) pe_int (pe_callB call_len_seq (by rfl) T.m_len PySem.boot_len (pa_cons (pv 2) pa_nil))) pa_nil))) pa_nil)) (pg_sub (pv 3) (pv 4) (set_dict (SPE.room1 hr))))))
  (pss_cons (ps_setLc (i := 5) (own := [("_law_piece", 8)]) (g := (gName 8)) rfl nd rfl rfl (sw_true rfl rfl rfl (by decide +kernel)) (pi_tup (pv 1)) (blkOk_by (own := [("_law_piece", 8)]) (N := N_named) (sc := defScope s_named) (by decide +kernel)) (fun _ _ _ _ _ => (pg_name (i := 8) nd rfl (Or.inl rfl))) (fun _ _ _ _ _ => pts_nil) (fun _ _ _ _ _ => (SPE.pe_joinK (K := K) rfl pe_str (pe_lc (own := [("_law_letter", 4)]) (g := (gName 4)) rfl nd (pi_str (pv 8)) (blkOk_by (own := [("_law_letter", 4)]) (N := N_named) (sc := { kind := .function, names := [(".0", .local), ("_law_piece", .local), ("_law_names", .cell)], isGenerator := false, isCoroutine := false }) (by decide +kernel)) (fun _ _ _ _ _ => (pg_name (i := 4) nd rfl (Or.inl rfl))) (fun _ _ _ _ _ => pts_nil) (fun _ _ _ _ _ => (pe_dget (SPE.room1 hr) (pv 3) (pv 4) (fun _ _ => rfl)))))))
  (Evl.pss_cut (ps_if (pt_cmpR op_eq (pe_call G_pick hr (by rfl) T.g_pick T.F_pick.kp T.b_pick .nil pass0 (pa_cons (pv 0) (pa_cons pe_int pa_nil))) pe_int (nomark _))
    (pss_one (ps_setLc (i := 5) (own := [("_law_piece", 8)]) (g := (gName 8)) rfl nd rfl rfl (sw_true rfl rfl rfl (by decide +kernel)) (pi_list (pv 5)) (blkOk_by (own := [("_law_piece", 8)]) (N := N_named) (sc := defScope s_named) (by decide +kernel)) (fun _ _ _ _ _ => (pg_name (i := 8) nd rfl (Or.inl rfl))) (fun _ _ _ _ _ => pts_nil) (fun _ _ _ _ _ => (SPE.pe_revS (pv 8)))))
    pss_nil)
  (pss_cons (ps_set (i := 6) nd rfl (by first | exact Or.inl rfl | exact Or.inr rfl) (pe_lst pa_nil))
  (pss_cons (ps_for PassesOwn.never rfl (pi_range1 (by rfl) T.m_range (pa_cons (pe_callB call_len_seq (by rfl) T.m_len PySem.boot_len (pa_cons (pv 5) pa_nil)) pa_nil)) (pg_name (i := 7) nd rfl (by first | exact Or.inl rfl | exact Or.inr rfl))
    (pss_one (ps_expr (pe_bm PySem.F.plainAttrs_list PySem.F.slot_list_append PySem.F.type_list_append mt_append (pv 6) (pa_cons (pe_bm PySem.F.plainAttrs_list PySem.F.slot_list_pop PySem.F.type_list_pop mt_popAt (pv 5) (pa_cons (pe_call G_pick hr (by rfl) T.g_pick T.F_pick.kp T.b_pick .nil pass0 (pa_cons (pv 0) (pa_cons (pe_callB call_len_seq (by rfl) T.m_len PySem.boot_len (pa_cons (pv 5) pa_nil)) pa_nil))) pa_nil)) pa_nil)))))
  (pss_one (ps_ret (pe_callTy RB.call_tupO (by rfl) T.m_tuple (by decide +kernel) (pa_cons (pv 6) pa_nil)))))))))), ?_⟩
    have hsum := g.sum
    have hpos := g.pos
    have hl8 : ("abcdefgh" : Str).cps.size ≤ sizeLine := by
      rw [sizeLine_eq]
      decide
    walk_at "rds"
    rename_i lf G1 q1 e1 v1 o1 nm G2 q2 e2 v2 o2
    have s03 := e1.trans (e2.trans hs)
    have hlf := hs _ _ (e2 _ _ v1)
    have hnm := hs _ _ v2
    have nln : nm ≠ lf := (ne_of_none v1 q2).symm
    have nlt : lf ≠ t := (ne_of_none ht q1).symm
    have nnt : nm ≠ t := (ne_of_none (e1 _ _ ht) q2).symm
    have hh3 := hh.same s03
    have ht3 := s03 _ _ ht
    have hnlf : H lf = none := q1
    have hnnm : H nm = none := e1.free q2
    clear e1 e2 v1 v2 q1 q2 hv hs hp hn
    generalize H' = H3 at s03 hlf hnm hh3 ht3 ⊢
    refine RB.joinV (.inr (.inl (.inl ht3))) (by show _ + _ * 0 ≤ _; omega) ?_
    refine RB.ssV (by rw [join_size]; omega) fun ys o H4 ho hpo s4 hvo => ?_
    obtain ⟨cs, rfl, hnd, hcs⟩ := own_signs ho
    have habc : ∀ c, c ∈ cs → c ∈ abc := fun c hc => by
      have := (hcs c).mp hc
      rw [join_cps] at this
      obtain ⟨l, hl, hcl⟩ := List.mem_flatten.mp this
      obtain ⟨y, hy, rfl⟩ := List.mem_map.mp hl
      exact g.abc y hy c hcl
    have hall : ∀ z, z ∈ zs → ∀ c, c ∈ z.cps.toList → c ∈ cs := fun z hz c hc => (hcs c).mpr (by
      rw [join_cps]
      exact List.mem_flatten.mpr ⟨_, List.mem_map.mpr ⟨z, hz, rfl⟩, hc⟩)
    have hc3 := le3 cs hnd habc
    have hh4 := hh3.same s4
    have oo : SPE.Off o x := hand_ne hpo hh3
    have hlf4 := s4 _ _ hlf
    have hnm4 := s4 _ _ hnm
    have ht4 := s4 _ _ ht3
    have nol : lf ≠ o := ne_of_none hlf hpo
    have non : nm ≠ o := ne_of_none hnm hpo
    have k04 : SPE.KX x H H4 := SPE.kx_of (s03.trans s4)
    have kx_t : ∀ {H1 H2 : Hp}, SPE.KX x H1 H2 → BagOk H1 x → ∀ a xs, H1 a = some (.tup xs) → H2 a = some (.tup xs) := fun k hh a xs e => k a _ (hh.tupOff e) e
    clear hlf hnm ht3 hh3 s03 s4 hpo ho hcs
    walk_at "rds"
    have hlz : ("abcdefgh" : Str).cps.toList = lets := rfl
    rw [hlz] at hlf4
    refine RD.forW (walk_list (xs := (cs.map fun c => (⟨#[c]⟩ : Str)).map V.str)) (fun i σ H' => ∃ (ns ls : List Nat) (x4 x5 x6 x7 x8 : Option V), σ = [some (.ref x.1), some (.ref t), some (.ref lf), some (.ref nm), x4, x5, x6, x7, x8] ∧ SPE.KX x H H' ∧ BagOk H' x ∧ H' t = some (.tup (zs.map V.str)) ∧
      H' o = some (.lst ((cs.map fun c => (⟨#[c]⟩ : Str)).map V.str)) ∧ H' lf = some (.lst (ls.map fun c => V.str (⟨#[c]⟩ : Str))) ∧ H' nm = some (.dK (kvsOf (cs.take i) ns)) ∧ ns.length = i ∧ (ns ++ ls).Perm lets) ⟨[], lets, _, _, _, _, _, rfl, k04, hh4, ht4, hvo, hlf4, hnm4, rfl, List.Perm.refl _⟩ (fun i σ H' _ ⟨_, _, _, _, _, _, _, _, _, _, _, h, _⟩ => .inl (.inl h)) (fun i v σ H5 H6 hi hp hy => ?_) (fun σ H5 hp => ?_)
    · obtain ⟨ns, ls, x4, x5, x6, x7, x8, rfl, k5, hh5, ht5, ho5, hlf5, hnm5, hnl, hperm⟩ := hp
      obtain ⟨rfl, hx⟩ := hy
      rw [List.map_map, List.getElem?_map] at hx
      obtain ⟨c, hc, rfl⟩ := Option.map_eq_some_iff.mp hx
      have hi3 : i < cs.length := (List.getElem?_eq_some_iff.mp hc).1
      have hll : ls.length = 8 - i := by
        have := hperm.length_eq
        rw [List.length_append, hnl] at this
        have e8 : lets.length = 8 := rfl
        omega
      clear hlf4 hnm4 ht4 hh4 hvo k04
      walk_at "rds"
      refine spPick.mk (E := E0) hh5 (by decide) (by decide) fun r0 H7 _ _ k7 hh7 => ?_
      have hlf7 := k7 _ _ o1 hlf5
      have hnm7 := k7 _ _ o2 hnm5
      have ho7 := k7 _ _ oo ho5
      have ht7 := kx_t k7 hh5 _ _ ht5
      have k07 := k5.trans k7
      clear hlf5 hnm5 ho5 ht5 k5 k7 hh5
      walk_at "rds"
      refine RD.ite_d (fun _ => ?_) (fun _ => ?_)
      · walk_at "rds"
        refine spPick.mk (E := E0) hh7 (by decide) (by decide) fun r H8 hr0 hr1 k8 hh8 => ?_
        · have hr1 : r < (ls.length : Int) := by omega
          obtain ⟨k, rfl⟩ : ∃ k : Nat, r = (k : Int) := ⟨r.toNat, (Int.toNat_of_nonneg hr0).symm⟩
          have hk : k < ls.length := by omega
          have hlf8 := k8 _ _ o1 hlf7
          have hnm8 := k8 _ _ o2 hnm7
          have ho8 := k8 _ _ oo ho7
          have ht8 := kx_t k8 hh7 _ _ ht7
          have k08 := k07.trans k8
          have hkl : (ls.map fun c => V.str (⟨#[c]⟩ : Str)).length = ls.length := List.length_map ..
          have hix : seqIndex? (k : Int) (ls.map fun c => V.str (⟨#[c]⟩ : Str)).length = some k := by
            unfold seqIndex?
            rw [hkl]
            have e1 : ¬ ((k : Int) < 0) := by omega
            simp [e1, hk]
          walk_at "rds"
          refine SPE.popAt hlf8 ⟨by omega, by omega⟩ hix (by rw [List.getElem?_map, List.getElem?_eq_getElem hk]; rfl) fun H9 k9 h9 => ?_
          walk_at "rds"
          have hnm9 := k9 _ _ nln hnm8
          refine FR.dputS (z := ⟨#[c]⟩) hnm9 (RD.szl (by show (kvsOf _ _).length < _; unfold kvsOf; rw [List.length_map, List.length_zip]; omega)) fun H10 k10 h10 => ?_
          rw [take_succ_kv hc hnl hnd] at h10
          have e9 : ((ls.map fun c => V.str (⟨#[c]⟩ : Str)).eraseIdx k) = (ls.eraseIdx k).map fun c => V.str (⟨#[c]⟩ : Str) := erase_map _ _ _
          rw [e9] at h9
          refine ⟨ns ++ [ls[k]], ls.eraseIdx k, _, _, _, _, _, rfl, ?_, ?_, ?_, ?_, ?_, ?_, ?_, ?_⟩
          · exact SPE.kx_mut k10 (SPE.kx_mut k9 k08 hnlf) hnnm
          · exact (hh8.mut k9 o1).mut k10 o2
          · exact k10 _ _ nnt.symm (k9 _ _ nlt.symm ht8)
          · exact k10 _ _ non.symm (k9 _ _ nol.symm ho8)
          · exact k10 _ _ nln.symm h9
          · exact h10
          · rw [List.length_append, hnl]
            rfl
          · rw [List.append_assoc]
            exact ((erase_perm hk).append_left ns).trans hperm
      · walk_at "rds"
        refine spPick.mk (E := E0) hh7 (by rw [List.length_map]; omega) (by rw [List.length_map]; omega) fun r H8 hr0 hr1 k8 hh8 => ?_
        · have hr1 : r < (ls.length : Int) := by rw [List.length_map] at hr1; exact hr1
          obtain ⟨k, rfl⟩ : ∃ k : Nat, r = (k : Int) := ⟨r.toNat, (Int.toNat_of_nonneg hr0).symm⟩
          have hk : k < ls.length := by omega
          have hlf8 := k8 _ _ o1 hlf7
          have hnm8 := k8 _ _ o2 hnm7
          have ho8 := k8 _ _ oo ho7
          have ht8 := kx_t k8 hh7 _ _ ht7
          have k08 := k07.trans k8
          have hkl : (ls.map fun c => V.str (⟨#[c]⟩ : Str)).length = ls.length := List.length_map ..
          have hix : seqIndex? (k : Int) (ls.map fun c => V.str (⟨#[c]⟩ : Str)).length = some k := by
            unfold seqIndex?
            rw [hkl]
            have e1 : ¬ ((k : Int) < 0) := by omega
            simp [e1, hk]
          walk_at "rds"
          refine SPE.popAt hlf8 ⟨by omega, by omega⟩ hix (by rw [List.getElem?_map, List.getElem?_eq_getElem hk]; rfl) fun H9 k9 h9 => ?_
          walk_at "rds"
          have hnm9 := k9 _ _ nln hnm8
          refine FR.dputS (z := ⟨#[c]⟩) hnm9 (RD.szl (by show (kvsOf _ _).length < _; unfold kvsOf; rw [List.length_map, List.length_zip]; omega)) fun H10 k10 h10 => ?_
          rw [take_succ_kv hc hnl hnd] at h10
          have e9 : ((ls.map fun c => V.str (⟨#[c]⟩ : Str)).eraseIdx k) = (ls.eraseIdx k).map fun c => V.str (⟨#[c]⟩ : Str) := erase_map _ _ _
          rw [e9] at h9
          refine ⟨ns ++ [ls[k]], ls.eraseIdx k, _, _, _, _, _, rfl, ?_, ?_, ?_, ?_, ?_, ?_, ?_, ?_⟩
          · exact SPE.kx_mut k10 (SPE.kx_mut k9 k08 hnlf) hnnm
          · exact (hh8.mut k9 o1).mut k10 o2
          · exact k10 _ _ nnt.symm (k9 _ _ nlt.symm ht8)
          · exact k10 _ _ non.symm (k9 _ _ nol.symm ho8)
          · exact k10 _ _ nln.symm h9
          · exact h10
          · rw [List.length_append, hnl]
            rfl
          · rw [List.append_assoc]
            exact ((erase_perm hk).append_left ns).trans hperm
    · obtain ⟨ns, ls, x4, x5, x6, x7, x8, rfl, k5, hh5, ht5, ho5, hlf5, hnm5, hnl, hperm⟩ := hp
      have hcn : cs.length = ns.length := by
        rw [hnl, List.length_map, List.length_map]
      rw [List.length_map, List.length_map, List.take_length] at hnm5
      have hlnd : (ns ++ ls).Nodup := hperm.nodup_iff.mpr (by decide)
      have hnnd : ns.Nodup := (List.nodup_append.mp hlnd).1
      have hnls : ∀ c, c ∈ ns → c ∈ lets := fun c hc => hperm.mem_iff.mp (List.mem_append_left _ hc)
      clear hlf4 hnm4 ht4 hh4 hvo k04
      walk_at "rds"
      refine RD.lcF (walk_tup (xs := zs.map V.str)) (by rw [List.length_map]; have := g.few; omega) (fun i => (zs[i]?).map fun z => .str (mapS cs ns z)) (fun H' s => by walk_at "st") (fun i v H6 Z N hi hx s6 hZ hN => ?_) (fun D H6 hD s6 hv6 => ?_)
      · rw [List.getElem?_map] at hx
        obtain ⟨z, hz, rfl⟩ := Option.map_eq_some_iff.mp hx
        have hzm := List.mem_of_getElem? hz
        have hzs := (g.size z hzm).2
        walk_at "rds"
        refine ⟨rfl, ?_⟩
        walk_at "rds"
        refine RD.lcF RB.w_str (by omega) (fun j => (z.cps.toList[j]?).map fun c => .str ⟨#[nameOf cs ns c]⟩) (fun _ _ => trivial) (fun j v H7 Z2 N2 hj hx2 s7 hZ2 hN2 => ?_) (fun D2 H7 hD2 s7 hv7 => ?_)
        · rw [List.getElem?_map] at hx2
          obtain ⟨c, hc, rfl⟩ := Option.map_eq_some_iff.mp hx2
          have hnm7 := s7 _ _ (s6 _ _ hnm5)
          walk_at "rds"
          refine ⟨rfl, ?_⟩
          walk_at "rds"
          exact FR.dgetS (.inl hnm7) (valV_of hcn (hall z hzm c (List.mem_of_getElem? hc))) (hZ2 _ _ (by rw [hc]; rfl) (Same.refl _))
        · rw [show z.cps.size = z.cps.toList.length from Array.length_toList.symm, RD.range_get (fun c => V.str ⟨#[nameOf cs ns c]⟩)] at hv7
          refine RB.joinV (ys := (z.cps.toList.map (nameOf cs ns)).map fun c => (⟨#[c]⟩ : Str)) (.inl (.inl (.inl (by rw [List.map_map, List.map_map]; exact hv7)))) ?_ ?_
          · show _ + _ * 0 ≤ _
            rw [cs_sum, List.length_map, Array.length_toList]
            omega
          · refine hZ _ _ ?_ s7
            rw [hz]
            refine congrArg (fun s => some (V.str s)) (str_ext ?_)
            rw [cs_join]
            rfl
      · have k06 : SPE.KX x H H6 := k5.trans (SPE.kx_of s6)
        have hh6 := hh5.same s6
        rw [List.length_map, RD.range_get (fun z => V.str (mapS cs ns z))] at hv6
        have hws : ∃ ws : List Str, H6 D = some (.lst (ws.map V.str)) ∧ Good ws := ⟨zs.map (mapS cs ns), by rw [List.map_map]; exact hv6, by rw [List.length_map]; exact g.some, by rw [List.length_map]; exact g.few, fun z hz => by
          obtain ⟨y, hy, rfl⟩ := List.mem_map.mp hz
          have hsz := g.size y hy
          refine pieceB_of ?_ ?_ ?_
          · show 1 ≤ (List.map (nameOf cs ns) y.cps.toList).toArray.size
            rw [List.size_toArray, List.length_map, Array.length_toList]
            exact hsz.1
          · show (List.map (nameOf cs ns) y.cps.toList).toArray.size ≤ 8
            rw [List.size_toArray, List.length_map, Array.length_toList]
            exact hsz.2
          · intro c hc
            obtain ⟨d, hd, rfl⟩ := List.mem_map.mp (show c ∈ List.map (nameOf cs ns) y.cps.toList from hc)
            exact hnls _ (nameOf_mem hcn (hall y hy d hd)), by
          refine (List.pairwise_map.mpr (g.once.imp_of_mem fun {a b} ha hb hab e => hab (mapS_inj hcn hnnd (hall a ha) (hall b hb) e)))⟩
        have nD : SPE.Off D x := hand_ne hD hh5
        have hfrD : H D = none := kx_free k5 nD hD
        clear hlf5 hnm5 ho5 hh5 k5 ht5 hv6
        obtain ⟨ws, hD6, gw⟩ := hws
        have gws := gw.some
        refine ⟨fun σ' H' => ∃ (D : Addr) (ws : List Str) (x4 x6 x7 x8 : Option V), σ' = [some (.ref x.1), some (.ref t), some (.ref lf), some (.ref nm), x4, some (.ref D), x6, x7, x8] ∧ SPE.KX x H H' ∧ BagOk H' x ∧ H' D = some (.lst (ws.map V.str)) ∧ Good ws ∧ SPE.Off D x ∧ H D = none, ?_, ?_⟩
        · walk_at "rds"
          refine spPick.mk (E := E0) hh6 (by decide) (by decide) fun r H7 _ _ k7 hh7 => ?_
          have hD7 := k7 _ _ nD hD6
          have k07 := k06.trans k7
          clear hh6 hD6 k06 k7 s6
          walk_at "rds"
          refine RD.ite_d (fun _ => ?_) (fun _ => ?_)
          · walk_at "rds"
            refine RD.lcF (walk_list (xs := ws.map V.str)) (by rw [List.length_map]; have := gw.few; omega) (fun i => (ws[i]?).map fun z => .str (SPE.revS z)) (fun H' s => by walk_at "sq") (fun i v H8 Z N hi hx s8 hZ hN => ?_) (fun D2 H8 hD2 s8 hv8 => ?_)
            · rw [List.getElem?_map] at hx
              obtain ⟨z, hz, rfl⟩ := Option.map_eq_some_iff.mp hx
              have hps := piece_size (gw.piece z (List.mem_of_getElem? hz))
              have hzl : z.length ≤ sizeLine := RD.szo (by show z.cps.size ≤ _; omega)
              walk_at "rds"
              refine ⟨rfl, ?_⟩
              walk_at "rds"
              exact hZ _ _ (by rw [hz]; rfl) (Same.refl _)
            · rw [List.length_map, RD.range_get (fun z => V.str (SPE.revS z))] at hv8
              walk_at "rds"
              exact ⟨D2, ws.map SPE.revS, _, _, _, _, rfl, k07.trans (SPE.kx_of s8), hh7.same s8, by rw [List.map_map]; exact hv8, good_rev gw, hand_ne hD2 hh7, kx_free k07 (hand_ne hD2 hh7) hD2⟩
          · walk_at "rds"
            exact ⟨D, ws, _, _, _, _, rfl, k07, hh7, hD7, gw, nD, hfrD⟩
        · rintro σ' H' ⟨D, ws, x4, x6, x7, x8, rfl, k7, hh7, hD7, gw, nD, hfrD⟩
          clear hD6 k06 hh6
          walk_at "rds"
          have hml : (ws.map V.str).length = ws.length := List.length_map ..
          have gwf := gw.few
          refine ⟨by omega, by omega, ?_⟩
          have hfp : H p' = none := kx_free k7 hn hp
          have nDp : D ≠ p' := ne_of_none hD7 hp
          have hD8 := hs _ _ hD7
          have hh8 := hh7.same hs
          have k8 := k7.trans (SPE.kx_of hs)
          clear hD7 hh7 k7 hs hp
          refine RD.forW (walk_range (lo := 0) (n := ((ws.map V.str).length : Int).toNat)) (fun i σ H' => ∃ (rs fs : List Str) (x7 : Option V), σ = [some (.ref x.1), some (.ref t), some (.ref lf), some (.ref nm), x4, some (.ref D), some (.ref p'), x7, x8] ∧ SPE.KX x H H' ∧ BagOk H' x ∧ H' D = some (.lst (fs.map V.str)) ∧ H' p' = some (.lst (rs.map V.str)) ∧ rs.length = i ∧ (rs ++ fs).Perm ws)
            ⟨[], ws, _, rfl, k8, hh8, hD8, hv, rfl, List.Perm.refl _⟩ (fun _ _ _ _ _ => trivial) (fun i v σ H9 H10 hi hp hy => ?_) (fun σ H9 hp => ?_)
          · obtain ⟨rs, fs, x7, rfl, k9, hh9, hD9, hp9, hrl, hpm⟩ := hp
            obtain ⟨rfl, rfl⟩ := hy
            clear k8 hh8 hD8 hv
            have hfl : rs.length + fs.length = ws.length := by
              have := hpm.length_eq
              rwa [List.length_append] at this
            have hmf : (fs.map V.str).length = fs.length := List.length_map ..
            have hmr : (rs.map V.str).length = rs.length := List.length_map ..
            walk_at "rds"
            refine spPick.mk (E := E0) hh9 (by omega) (by omega) fun r H11 hr0 hr1 k11 hh11 => ?_
            obtain ⟨k, rfl⟩ : ∃ k : Nat, r = (k : Int) := ⟨r.toNat, (Int.toNat_of_nonneg hr0).symm⟩
            have hk : k < fs.length := by omega
            have hD11 := k11 _ _ nD hD9
            have hp11 := k11 _ _ hn hp9
            have hix : seqIndex? (k : Int) (fs.map V.str).length = some k := by
              unfold seqIndex?
              rw [hmf]
              have e1 : ¬ ((k : Int) < 0) := by omega
              simp [e1, hk]
            walk_at "rds"
            refine SPE.popAt hD11 ⟨by omega, by omega⟩ hix (by rw [List.getElem?_map, List.getElem?_eq_getElem hk]; rfl) fun H12 k12 h12 => ?_
            have hp12 := k12 _ _ nDp.symm hp11
            have hsz : (rs.map V.str).length < sizeLine := RD.szl (by omega)
            have k012 := SPE.kx_mut k12 (k9.trans k11) hfrD
            have hh12 := hh11.mut k12 nD
            clear k9 hh9 hD9 hp9 k11 hh11 hD11 hp11
            walk_at "rds"
            refine ⟨rs ++ [fs[k]], fs.eraseIdx k, _, rfl, SPE.kx_mut hk k012 hfp, hh12.mut hk hn, ?_, ?_, by rw [List.length_append, hrl]; rfl, ?_⟩
            · rw [← erase_map]
              exact hk _ _ nDp h12
            · rw [List.map_append]
              exact hv
            · rw [List.append_assoc]
              exact ((erase_perm (l := fs) (k := k) (by omega)).append_left rs).trans hpm
          · obtain ⟨rs, fs, x7, rfl, k9, hh9, hD9, hp9, hrl, hpm⟩ := hp
            clear k8 hh8 hD8 hv
            have hfl : rs.length + fs.length = ws.length := by
              have := hpm.length_eq
              rwa [List.length_append] at this
            have hfs : fs = [] := List.eq_nil_of_length_eq_zero (by rw [hml] at hrl; omega)
            subst hfs
            rw [List.append_nil] at hpm
            walk_at "rds"
            exact q _ rs _ (by walk_at "kx") (by walk_at "hk") hv (good_perm hpm gw)
end


end K27

namespace K27
open PySem PySem.Spec PyProof.Rows L2
local macro_rules | `(tactic| walk_at "kd") => `(tactic| first | assumption | exact SPD.KdOf.int _ | exact SPD.KdOf.str _ | exact SPD.KdOf.bl _ | exact SPD.KdOf.non | exact SPD.KdOf.same (by assumption) (by walk_at "kd") | exact SPD.KdOf.tup (by walk_at "hp") | exact SPD.KdOf.lst (by walk_at "hp") | fail "no")
local macro_rules | `(tactic| walk_at "ne") => `(tactic| first | assumption | exact Ne.symm (by assumption) | fail "no")
local macro_rules | `(tactic| walk_at "hp") => `(tactic| first | assumption | exact RD.at_same (by assumption) (by walk_at "hp") | exact RD.at_kb (by assumption) (by walk_at "ne") (by walk_at "hp") | fail "no")
local macro_rules | `(tactic| walk_at "sq") => `(tactic| first | assumption | exact Or.inl (Or.inl (by walk_at "hp")) | exact Same.seq (by assumption) (by walk_at "sq") | exact RD.KB.seq (by assumption) (by walk_at "ne") (by walk_at "sq") | fail "no")
local macro_rules | `(tactic| walk_at "st") => `(tactic| first | assumption | exact Or.inl (Or.inl (by walk_at "hp")) | exact RD.Same.tup (by assumption) (by walk_at "st") | exact RD.KB.tup (by assumption) (by walk_at "ne") (by walk_at "st") | fail "no")
local macro_rules | `(tactic| walk_at "rd") => `(tactic| first
  | with_reducible refine RD.c ?_
  | ((with_reducible refine' RD.var ?rdE ?rdK); (case rdE => exact rfl))
  | with_reducible refine RD.op ?_
  | with_reducible refine RD.un ?_
  | with_reducible refine RD.nil ?_
  | with_reducible refine RD.cons ?_
  | with_reducible refine RD.cb ?_
  | with_reducible refine RD.call ?_
  | with_reducible refine RD.test ?_
  | with_reducible refine RD.tb' ?_
  | with_reducible refine RD.bl ?_
  | with_reducible refine RD.and' ?_
  | with_reducible refine RD.or' ?_
  | with_reducible refine RD.not' ?_
  | with_reducible refine RD.andV ?_
  | with_reducible refine RD.orV ?_
  | with_reducible refine RD.notV ?_
  | with_reducible refine RD.ife ?_
  | with_reducible refine RD.sl ?_
  | with_reducible refine RD.part ?_
  | with_reducible refine RD.noPart ?_
  | with_reducible refine RD.partI ?_
  | with_reducible refine RD.rd0 ?_
  | with_reducible refine RD.rdU ?_
  | ((with_reducible refine' RD.rdEq ?rdE ?rdK); (case rdE => rfl))
  | ((with_reducible refine' RD.rdNe ?rdE ?rdK); (case rdE => rfl))
  | ((with_reducible refine' RD.ixL ?rdH ?rdE ?rdK); (case rdH => walk_at "sq"); (case rdE => first | rfl | assumption))
  | ((with_reducible refine' RD.rdI ?rdC ?rdK); (case rdC => first | assumption | (show (0 : Int) < _; first | decide | omega) | exact ⟨by decide, by decide⟩ | exact ⟨by assumption, by assumption⟩ | exact .inr ⟨by decide, by decide⟩ | exact .inl ⟨by decide, by decide⟩ | exact ⟨by decide, by decide, by decide⟩ | exact .inl ⟨by omega, by omega⟩))
  | ((with_reducible refine' RD.setL ?rdH ?rdE ?rdK); (case rdH => walk_at "hp"); (case rdE => rfl); intro $(Lean.mkIdent `H'):ident $(Lean.mkIdent `hk):ident $(Lean.mkIdent `hv):ident)
  | ((with_reducible refine' RD.irng1V ?rdA ?rdB ?rdK); (case rdA => first | decide | omega); (case rdB => first | decide | omega))
  | with_reducible refine RD.int1 ?_
  | with_reducible refine RD.abs1 ?_
  | ((with_reducible refine' RD.len ?rdH ?rdK); (case rdH => first | exact Or.inl (by walk_at "sq") | exact Or.inr (by walk_at "st")))
  | with_reducible refine RD.tup ?_
  | with_reducible refine RD.lst ?_
  | with_reducible refine RD.ite1 ?_
  | with_reducible refine RD.ite0 ?_
  | with_reducible refine RD.ite1n ?_
  | with_reducible refine RD.ite0n ?_
  | with_reducible refine RD.seq ?_
  | with_reducible refine RD.asg ?_
  | with_reducible refine RD.name ?_
  | with_reducible refine RD.ret ?_
  | with_reducible refine RD.drop ?_
  | with_reducible refine RD.next ?_
  | with_reducible refine RD.ifs ?_
  | with_reducible refine RD.par ?_
  | with_reducible refine RD.par2 ?_
  | with_reducible refine RD.sub ?_
  | with_reducible refine RD.gcons ?_
  | with_reducible refine RD.gnil ?_
  | with_reducible refine RD.bm ?_
  | ((with_reducible refine' RD.bmL ?rdH ?rdK); (case rdH => walk_at "sq"))
  | ((with_reducible refine' RD.newZ ?rdH ?rdK); (case rdH => exact RD.sz _); intro $(Lean.mkIdent `p'):ident $(Lean.mkIdent `H'):ident $(Lean.mkIdent `hp):ident $(Lean.mkIdent `hs):ident $(Lean.mkIdent `hv):ident; (try have $(Lean.mkIdent `hn):ident := hand_ne $(Lean.mkIdent `hp):ident (by walk_at "hk")))
  | with_reducible refine RD.fors ?_
  | with_reducible refine RD.lc ?_
  | with_reducible refine RD.yes ?_
  | with_reducible refine RD.ilist ?_
  | ((with_reducible refine' RD.ilistV ?rdH ?rdK); (case rdH => walk_at "sq"))
  | with_reducible refine RD.itup ?_
  | ((with_reducible refine' RD.itupV ?rdH ?rdK); (case rdH => walk_at "st"))
  | with_reducible refine RD.irng1 ?_
  | with_reducible refine RD.irng2 ?_
  | ((with_reducible refine' RD.irng2V ?rdA ?rdK); (case rdA => first | decide | omega))
  | with_reducible refine RD.ienum ?_
  | ((with_reducible refine' RD.ienumV ?rdH ?rdK); (case rdH => walk_at "sq"))
  | with_reducible refine RD.izip ?_
  | ((with_reducible refine' RD.izipV ?rdH ?rdE ?rdK); (case rdH => walk_at "sq"); (case rdE => walk_at "sq"))
  | with_reducible refine SPD.izipA ?_
  | with_reducible refine RD.istr ?_
  | with_reducible refine RD.istrV ?_
  | ((with_reducible refine' RD.slL ?rdH ?rdK); (case rdH => walk_at "sq"); intro $(Lean.mkIdent `p'):ident $(Lean.mkIdent `H'):ident $(Lean.mkIdent `hp):ident $(Lean.mkIdent `hs):ident $(Lean.mkIdent `hv):ident; (try have $(Lean.mkIdent `hn):ident := hand_ne $(Lean.mkIdent `hp):ident (by walk_at "hk")))
  | ((with_reducible refine' RD.cat ?rdH ?rdE ?rdZ ?rdK); (case rdH => walk_at "hp"); (case rdE => walk_at "hp"); (case rdZ => exact RD.sz _); intro $(Lean.mkIdent `p'):ident $(Lean.mkIdent `H'):ident $(Lean.mkIdent `hp):ident $(Lean.mkIdent `hs):ident $(Lean.mkIdent `hv):ident; (try have $(Lean.mkIdent `hn):ident := hand_ne $(Lean.mkIdent `hp):ident (by walk_at "hk")))
  | ((with_reducible refine' RD.gtup ?rdH ?rdE ?rdK); (case rdH => walk_at "st"); (case rdE => rfl))
  | ((with_reducible refine' RD.app ?rdH ?rdZ ?rdK); (case rdH => walk_at "hp"); (case rdZ => first | assumption | (apply RD.szl; omega)); intro $(Lean.mkIdent `H'):ident $(Lean.mkIdent `hk):ident $(Lean.mkIdent `hv):ident)
  | ((with_reducible refine' RD.all1 ?rdH ?rdK); (case rdH => walk_at "sq"))
  | ((with_reducible refine' RD.any1 ?rdH ?rdK); (case rdH => walk_at "sq"))
  | ((with_reducible refine' SPD.dnew ?rdK); intro $(Lean.mkIdent `p'):ident $(Lean.mkIdent `H'):ident $(Lean.mkIdent `hp):ident $(Lean.mkIdent `hs):ident $(Lean.mkIdent `hv):ident; (try have $(Lean.mkIdent `hn):ident := hand_ne $(Lean.mkIdent `hp):ident (by walk_at "hk")))
  | ((with_reducible refine' SPD.disp1 ?rdK); intro $(Lean.mkIdent `p'):ident $(Lean.mkIdent `H'):ident $(Lean.mkIdent `hp):ident $(Lean.mkIdent `hs):ident $(Lean.mkIdent `hv):ident; (try have $(Lean.mkIdent `hn):ident := hand_ne $(Lean.mkIdent `hp):ident (by walk_at "hk")))
  | ((with_reducible refine' SPD.isSeq ?rdH ?rdE ?rdK); (case rdH => walk_at "hp"); (case rdE => walk_at "kd"))
  | ((with_reducible refine' SPD.isTup ?rdE ?rdK); (case rdE => walk_at "kd"))
  | ((with_reducible refine' SPD.isLst ?rdE ?rdK); (case rdE => walk_at "kd"))
  | ((with_reducible refine' SPD.isBool ?rdE ?rdK); (case rdE => walk_at "kd"))
  | ((with_reducible refine' SPD.isStr ?rdE ?rdK); (case rdE => walk_at "kd"))
  | ((with_reducible refine' SPD.isInt ?rdE ?rdK); (case rdE => walk_at "kd"))
  | dsimp only)
local macro_rules | `(tactic| walk_at "rds") => `(tactic| repeat walk_at "rd")
local macro_rules | `(tactic| walk_at "sm") => `(tactic| first | assumption | exact Same.refl _ | exact RD.sm_tr (by assumption) (by walk_at "sm") | fail "no")
local macro_rules | `(tactic| walk_at "kb") => `(tactic| first | assumption | exact RD.KB.refl | exact RD.kb_tr (by assumption) (by walk_at "kb") | exact RD.kb_trs (by assumption) (by walk_at "kb") | fail "no")
local macro_rules | `(tactic| walk_at "fr") => `(tactic| first | assumption | exact RD.fr_of (by assumption) (by walk_at "sm") | fail "no")
local macro_rules | `(tactic| walk_at "hk") => `(tactic| first | assumption | exact hand_same (by assumption) (by walk_at "hk") | exact hand_kb (by assumption) (by walk_at "fr") (by walk_at "hk") | fail "no")
local macro_rules | `(tactic| walk_at "na") => `(tactic| first | assumption | exact hand_ne (by assumption) (by walk_at "hk") | fail "no")
local macro_rules | `(tactic| walk_at "dqa") => `(tactic| first | exact SPD.DqA.nil | exact SPD.DqA.cons (by walk_at "dq") (by walk_at "dqa") | exact SPD.DqA.app (by walk_at "dqa") (by walk_at "dqa") | fail "no")
local macro_rules | `(tactic| walk_at "dq") => `(tactic| first | assumption | exact SPD.Dq.leaf rfl | exact SPD.dq_kb (by assumption) (by walk_at "kb") | exact SPD.dqTup (by walk_at "hp") (by walk_at "na") (by walk_at "dqa") | exact SPD.dqLst (by walk_at "hp") (by walk_at "na") (by walk_at "dqa") | exact SPD.dqNil (by walk_at "hp") (by walk_at "na") (by first | decide | simp) (by first | decide | simp) | fail "no")

local macro_rules | `(tactic| walk_at "rd") => `(tactic| first
  | with_reducible refine RB.chain ?_
  | with_reducible refine RB.m1 ?_
  | with_reducible refine RB.strE ?_
  | with_reducible refine RB.fld ?_
  | with_reducible refine RB.setF ?_
  | with_reducible refine RB.ss ?_
  | with_reducible refine RB.rev ?_
  | with_reducible refine RB.make ?_
  | with_reducible refine RB.makeS ?_
  | with_reducible refine RB.mkO ?_
  | with_reducible refine NR.ienumT ?_
  | with_reducible refine RB.inS ?_
  | with_reducible refine RB.bmS ?_
  | with_reducible refine RB.callS ?_
  | with_reducible refine RB.sw3 ?_
  | with_reducible refine RB.par3 ?_
  | with_reducible refine RB.par3V ?_
  | ((with_reducible refine' RB.slS ?rdH ?rdK); (case rdH => walk_at "sz"))
  | with_reducible refine RB.xf ?_
  | ((with_reducible refine' RB.xfV ?rdH ?rdE ?rdK); (case rdH => walk_at "hp"); (case rdE => rfl))
  | ((with_reducible refine' NR.ienumTV ?rdH ?rdK); (case rdH => walk_at "st"))
  | ((with_reducible refine' RB.lenL ?rdH ?rdK); (case rdH => walk_at "sq"))
  | ((with_reducible refine' RB.lenT ?rdH ?rdK); (case rdH => walk_at "st"))
  | ((with_reducible refine' RB.lenS ?rdH ?rdK); (case rdH => walk_at "sz"))
  | ((with_reducible refine' RD.lenS ?rdH ?rdK); (case rdH => walk_at "sz"))
  | ((with_reducible refine' RB.slT ?rdH ?rdK); (case rdH => walk_at "hp"); intro $(Lean.mkIdent `p'):ident $(Lean.mkIdent `H'):ident $(Lean.mkIdent `hs):ident $(Lean.mkIdent `hv):ident $(Lean.mkIdent `hp):ident; (try have $(Lean.mkIdent `hn):ident := two_ne $(Lean.mkIdent `hp):ident (by walk_at "na") (by walk_at "hk")))
  | ((with_reducible refine' RB.revV ?rdH ?rdK); (case rdH => walk_at "st"); intro $(Lean.mkIdent `p'):ident $(Lean.mkIdent `H'):ident $(Lean.mkIdent `hp):ident $(Lean.mkIdent `hs):ident $(Lean.mkIdent `hv):ident; (try have $(Lean.mkIdent `hn):ident := hand_ne $(Lean.mkIdent `hp):ident (by walk_at "hk")))
  | ((with_reducible refine' RB.listS ?rdH ?rdK); (case rdH => walk_at "sz"); intro $(Lean.mkIdent `p'):ident $(Lean.mkIdent `H'):ident $(Lean.mkIdent `hp):ident $(Lean.mkIdent `hs):ident $(Lean.mkIdent `hv):ident; (try have $(Lean.mkIdent `hn):ident := hand_ne $(Lean.mkIdent `hp):ident (by walk_at "hk")))
  | ((with_reducible refine' RB.listO ?rdH ?rdK); (case rdH => first | exact Or.inl (by walk_at "sq") | exact Or.inr (by walk_at "st")); intro $(Lean.mkIdent `p'):ident $(Lean.mkIdent `H'):ident $(Lean.mkIdent `hp):ident $(Lean.mkIdent `hs):ident $(Lean.mkIdent `hv):ident; (try have $(Lean.mkIdent `hn):ident := hand_ne $(Lean.mkIdent `hp):ident (by walk_at "hk")))
  | ((with_reducible refine' RB.tupL ?rdH ?rdK); (case rdH => walk_at "sq"); intro $(Lean.mkIdent `p'):ident $(Lean.mkIdent `H'):ident $(Lean.mkIdent `hp):ident $(Lean.mkIdent `hs):ident $(Lean.mkIdent `hv):ident; (try have $(Lean.mkIdent `hn):ident := hand_ne $(Lean.mkIdent `hp):ident (by walk_at "hk")))
  | ((with_reducible refine' RB.catT ?rdH ?rdE ?rdZ ?rdK); (case rdH => walk_at "hp"); (case rdE => walk_at "hp"); (case rdZ => exact RB.LN.sum (by walk_at "ln") (by walk_at "ln") rfl); intro $(Lean.mkIdent `p'):ident $(Lean.mkIdent `H'):ident $(Lean.mkIdent `hs):ident $(Lean.mkIdent `hv):ident $(Lean.mkIdent `hp):ident; (try have $(Lean.mkIdent `hn):ident := three_ne $(Lean.mkIdent `hp):ident (by walk_at "na") (by walk_at "na") (by walk_at "hk")))
  | fail "no")
local macro_rules | `(tactic| walk_at "ln") => `(tactic| first | with_reducible assumption | exact RB.LN.cut (by walk_at "ln") | exact RB.LN.app (by walk_at "ln") (by walk_at "ln") | exact RB.LN.rev (by walk_at "ln") | exact RB.LN.rep (by walk_at "ln") | exact RB.LN.lit rfl | fail "no")
local macro_rules | `(tactic| walk_at "sz") => `(tactic| first | assumption | exact RD.sz _ | fail "no")

local macro_rules | `(tactic| walk_at "hp") => `(tactic| first | assumption | exact RD.at_same (by assumption) (by walk_at "hp") | exact SPE.at_kx (by assumption) (by walk_at "na") (by walk_at "hp") | exact RD.at_kb (by assumption) (by walk_at "ne") (by walk_at "hp") | fail "no")
local macro_rules | `(tactic| walk_at "sq") => `(tactic| first | assumption | exact Or.inl (Or.inl (by walk_at "hp")) | exact Same.seq (by assumption) (by walk_at "sq") | exact SPE.KX.seq (by assumption) (by walk_at "na") (by walk_at "sq") | exact RD.KB.seq (by assumption) (by walk_at "ne") (by walk_at "sq") | fail "no")
local macro_rules | `(tactic| walk_at "st") => `(tactic| first | assumption | exact Or.inl (Or.inl (by walk_at "hp")) | exact RD.Same.tup (by assumption) (by walk_at "st") | exact SPE.KX.tup (by assumption) (by walk_at "na") (by walk_at "st") | exact RD.KB.tup (by assumption) (by walk_at "ne") (by walk_at "st") | fail "no")
local macro_rules | `(tactic| walk_at "kx") => `(tactic| first | assumption | exact SPE.KX.refl | exact SPE.kx_tr (by assumption) (by walk_at "kx") | exact SPE.kx_trs (by assumption) (by walk_at "kx") | fail "no")
local macro_rules | `(tactic| walk_at "dqa") => `(tactic| first | exact SPE.DqA.nil | exact SPE.DqA.cons (by walk_at "dq") (by walk_at "dqa") | exact SPE.DqA.app (by walk_at "dqa") (by walk_at "dqa") | fail "no")
local macro_rules | `(tactic| walk_at "dq") => `(tactic| first | assumption | exact SPE.Dq.leaf rfl | exact SPE.dq_kx (by assumption) (by walk_at "kx") | exact SPE.dqTup (by walk_at "hp") (by walk_at "na") (by walk_at "dqa") | exact SPE.dqLst (by walk_at "hp") (by walk_at "na") (by walk_at "dqa") | exact SPE.dqNil (by walk_at "hp") (by walk_at "na") (by first | decide | simp) (by first | decide | simp) | fail "no")
local macro_rules | `(tactic| walk_at "dqx") => `(tactic| first | exact $(Lean.mkIdent `hdb):ident _ (by walk_at "kx") | exact SPE.DqA.cons (SPE.dq_kx (by assumption) (by walk_at "kx")) SPE.DqA.nil | exact SPE.DqA.cons (SPE.Dq.leaf rfl) SPE.DqA.nil | exact SPE.DqA.nil | (with_reducible refine SPE.dqa_cut ?_; walk_at "dqx") | (with_reducible refine SPE.dqa_rev ?_; walk_at "dqx") | (with_reducible refine SPE.DqA.app ?_ ?_ <;> walk_at "dqx") | fail "no")
local macro_rules | `(tactic| walk_at "dqz") => `(tactic| first | exact SPE.dqTupN (by walk_at "hp") (by walk_at "na") (by walk_at "dqx") (by walk_at "ln") rfl | exact SPE.dqLstN (by walk_at "hp") (by walk_at "na") (by walk_at "dqx") (by walk_at "ln") rfl | fail "no")
local macro_rules | `(tactic| walk_at "rd") => `(tactic| first
  | with_reducible refine SPE.revs ?_
  | ((with_reducible refine' SPE.revsV ?rdH ?rdK); (case rdH => walk_at "sz"))
  | ((with_reducible refine' SPE.sum1 ?rdH ?rdK); (case rdH => walk_at "sq"))
  | fail "no")

local macro_rules | `(tactic| walk_at "rd") => `(tactic| first
  | ((with_reducible refine' RB.listO ?rdH ?rdK); (case rdH => exact Or.inr (by walk_at "st")); intro $(Lean.mkIdent `p'):ident $(Lean.mkIdent `H'):ident $(Lean.mkIdent `hp):ident $(Lean.mkIdent `hs):ident $(Lean.mkIdent `hv):ident; (try have $(Lean.mkIdent `hn):ident := hand_ne $(Lean.mkIdent `hp):ident (by walk_at "hk")))
  | fail "no")

local macro_rules | `(tactic| walk_at "dk") => `(tactic| first | exact FR.rd_of (by walk_at "hp") | exact Or.inr ⟨_, by walk_at "hp"⟩ | fail "no")
local macro_rules | `(tactic| walk_at "rd") => `(tactic| first
  | with_reducible refine FR.dget ?_
  | with_reducible refine FR.din ?_
  | with_reducible refine FR.dnotin ?_
  | with_reducible refine FR.dc ?_
  | with_reducible refine FR.ikeys ?_
  | with_reducible refine FR.ivals ?_
  | with_reducible refine FR.bm0 ?_
  | ((with_reducible refine' FR.dinS ?rdH ?rdK); (case rdH => walk_at "dk"))
  | ((with_reducible refine' FR.keysV ?rdH ?rdK); (case rdH => walk_at "hp"))
  | ((with_reducible refine' FR.valsV ?rdH ?rdK); (case rdH => walk_at "hp"))
  | ((with_reducible refine' FR.bmD ?rdH ?rdK); (case rdH => walk_at "hp"))
  | with_reducible refine FR.ckw ?_
  | with_reducible refine FR.dget2 ?_
  | ((with_reducible refine' FR.isdV ?rdH ?rdK); (case rdH => walk_at "dk"))
  | ((with_reducible refine' FR.dg2S ?rdH ?rdK); (case rdH => walk_at "dk"))
  | ((with_reducible refine' FR.lenD ?rdH ?rdK); (case rdH => walk_at "hp"))
  | fail "no")

/-! ### drawn books -/
def spDrawn : Sp := fun vs H Q _ => ∃ (x : SPE.AX), vs = [.ref x.1] ∧ BagOk H x ∧ ∀ (u : Addr) (ws : List Str) H', SPE.KX x H H' → BagOk H' x → H' u = some (.tup (ws.map V.str)) → Good ws → Q (.ref u) H'
def Raw (H : Hp) (v : V) : Prop := ∃ t zs, v = .ref t ∧ H t = some (.tup (zs.map V.str)) ∧ RawB zs
def strsOf : List V → Option (List Str)
  | [] => some []
  | .str z :: r => (strsOf r).map (z :: ·)
  | _ :: _ => none
theorem strsOf_eq : ∀ (vs : List V) (zs : List Str), strsOf vs = some zs → vs = zs.map V.str
  | [], zs, h => by cases h; rfl
  | v :: r, zs, h => by
    cases v with
    | str z =>
      obtain ⟨ys, hy, rfl⟩ := Option.map_eq_some_iff.mp (show (strsOf r).map (z :: ·) = some zs from h)
      rw [strsOf_eq r ys hy]
      rfl
    | _ => cases h
def rawV (vs : List V) : Bool := match strsOf vs with
  | some zs => decide (1 ≤ zs.length) && decide (zs.length ≤ 12) && zs.all (fun z => decide (1 ≤ z.cps.size) && decide (z.cps.size ≤ 8) && z.cps.toList.all fun c => decide (c ∈ abc)) && decide zs.Nodup
  | none => false
theorem raw_of {H : Hp} {t : Addr} {vs : List V} (h : H t = some (.tup vs)) (e : rawV vs = true) : Raw H (.ref t) := by
  unfold rawV at e
  cases hz : strsOf vs with
  | none =>
    rw [hz] at e
    cases e
  | some zs =>
    rw [hz] at e
    simp only [Bool.and_eq_true, decide_eq_true_eq, List.all_eq_true] at e
    obtain ⟨⟨⟨e1, e2⟩, e3⟩, e4⟩ := e
    have e5 := strsOf_eq vs zs hz
    subst e5
    exact ⟨t, zs, rfl, h, e1, e2, fun z hz => (e3 z hz).1, fun z hz c hc => (e3 z hz).2 c hc, e4⟩
inductive RawA (H : Hp) : List V → Prop where
  | nil : RawA H []
  | cons {v : V} {vs : List V} : Raw H v → RawA H vs → RawA H (v :: vs)
theorem RawA.app {H : Hp} {vs ws : List V} (h : RawA H vs) (g : RawA H ws) : RawA H (vs ++ ws) := by
  induction h with
  | nil => exact g
  | cons a _ ih => exact .cons a ih
theorem RawA.mem {H : Hp} {vs : List V} (h : RawA H vs) : ∀ v, v ∈ vs → Raw H v := by
  induction h with
  | nil => exact fun v hv => (List.not_mem_nil hv).elim
  | cons a _ ih =>
    intro v hv
    rcases List.mem_cons.mp hv with e | e
    · rw [e]; exact a
    · exact ih v e
local macro_rules | `(tactic| walk_at "rwa") => `(tactic| first | exact RawA.nil | exact RawA.cons (raw_of (by walk_at "hp") (by decide +kernel)) (by walk_at "rwa") | exact RawA.app (by walk_at "rwa") (by walk_at "rwa") | fail "no")
theorem spMore.mk {x : SPE.AX} {t : Addr} {zs : List Str} {m : Nat} {H : Hp} {Q : VK} {E : XK} (h : BagOk H x) (ht : H t = some (.tup (zs.map V.str))) (g : RawB zs) (hm : m ≤ 10)
    (q : ∀ (u : Addr) (ws : List Str) H', SPE.KX x H H' → BagOk H' x → H' u = some (.tup (ws.map V.str)) → RawB ws → Q (.ref u) H') : spMore ([.ref x.1, .ref t, .int (m : Nat)] ++ []) H Q E := ⟨x, t, zs, m, rfl, h, ht, g, hm, q⟩
theorem spNamed.mk {x : SPE.AX} {t : Addr} {zs : List Str} {H : Hp} {Q : VK} {E : XK} (h : BagOk H x) (ht : H t = some (.tup (zs.map V.str))) (g : RawB zs)
    (q : ∀ (u : Addr) (ws : List Str) H', SPE.KX x H H' → BagOk H' x → H' u = some (.tup (ws.map V.str)) → Good ws → Q (.ref u) H') : spNamed ([.ref x.1, .ref t] ++ []) H Q E := ⟨x, t, zs, rfl, h, ht, g, q⟩
section
variable {P : Program} {w : World} {K : PySem.W.Frag} {mg : Str → Option Value} {base : Heap}
theorem ok_full (T : Txt P K mg) : FnOk P w K mg base CX0 4 T.a_full T.fd_full ["_law_bag_here"] spDrawn := by
  have nd := sc_full.nd
  have G_some : FnOk P w K mg base CX0 3 T.a_some T.fd_some ["_law_bag_here", "_law_things"] (spSome K) := (ok_some T).mono (by decide)
  have G_more : FnOk P w K mg base CX0 3 T.a_more T.fd_more ["_law_bag_here", "_law_pieces", "_law_most"] spMore := ok_more T
  have G_named : FnOk P w K mg base CX0 3 T.a_named T.fd_named ["_law_bag_here", "_law_pieces"] spNamed := ok_named T
  refine T.F_full.ok sc_full (fun vs H Q E h => ?_) (fun cdv A outer s H vs Q E hr h => ?_)
  · obtain ⟨x, rfl, _⟩ := h
    rfl
  · obtain ⟨x, rfl, hh, q⟩ := h
    refine ⟨_, (pss_cons (ps_set (i := 1) nd rfl (by first | exact Or.inl rfl | exact Or.inr rfl) (pe_lst (pa_cons (pe_tup (pa_cons pe_str pa_nil)) (pa_cons (pe_tup (pa_cons pe_str pa_nil)) (pa_cons (pe_tup (pa_cons pe_str (pa_cons pe_str pa_nil))) (pa_cons (pe_tup (pa_cons pe_str (pa_cons pe_str pa_nil))) (pa_cons (pe_tup (pa_cons pe_str (pa_cons pe_str (pa_cons pe_str pa_nil)))) (pa_cons (pe_tup (pa_cons pe_str (pa_cons pe_str (pa_cons pe_str pa_nil)))) (pa_cons (pe_tup (pa_cons pe_str (pa_cons pe_str (pa_cons pe_str pa_nil)))) pa_nil)))))))))
  (pss_cons (ps_set (i := 1) nd rfl (by first | exact Or.inl rfl | exact Or.inr rfl) (pe_op op_cat (pv 1) (pe_lst (pa_cons (pe_tup (pa_cons pe_str (pa_cons pe_str (pa_cons pe_str pa_nil)))) (pa_cons (pe_tup (pa_cons pe_str (pa_cons pe_str (pa_cons pe_str pa_nil)))) (pa_cons (pe_tup (pa_cons pe_str (pa_cons pe_str (pa_cons pe_str (pa_cons pe_str pa_nil))))) (pa_cons (pe_tup (pa_cons pe_str (pa_cons pe_str (pa_cons pe_str pa_nil)))) pa_nil)))))))
  (pss_cons (ps_set (i := 1) nd rfl (by first | exact Or.inl rfl | exact Or.inr rfl) (pe_op op_cat (pv 1) (pe_lst (pa_cons (pe_tup (pa_cons pe_str (pa_cons pe_str (pa_cons pe_str (pa_cons pe_str (pa_cons pe_str (pa_cons pe_str pa_nil))))))) (pa_cons (pe_tup (pa_cons pe_str (pa_cons pe_str (pa_cons pe_str pa_nil)))) pa_nil)))))
  (pss_one (ps_ret (pe_call G_named hr (by rfl) T.g_named T.F_named.kp T.b_named .nil pass0 (pa_cons (pv 0) (pa_cons (pe_call G_more hr (by rfl) T.g_more T.F_more.kp T.b_more .nil pass0 (pa_cons (pv 0) (pa_cons (pe_call G_some hr (by rfl) T.g_some T.F_some.kp T.b_some .nil pass0 (pa_cons (pv 0) (pa_cons (pv 1) pa_nil))) (pa_cons pe_int pa_nil)))) pa_nil)))))))), ?_⟩
    walk_at "rds"
    have hbag : BagOk H' x := by walk_at "hk"
    have hsame : SPE.KX x H H' := by walk_at "kx"
    have hoff : SPE.Off p' x := by walk_at "na"
    obtain ⟨L, hlst, hraw, hl0, hl1⟩ : ∃ L, H' p' = some (.lst L) ∧ RawA H' L ∧ Nat.ble 1 L.length = true ∧ Nat.ble L.length 1000 = true := ⟨_, hv, by walk_at "rwa", rfl, rfl⟩
    have hl0 := Nat.le_of_ble_eq_true hl0
    have hl1 := Nat.le_of_ble_eq_true hl1
    refine spSome.mk (E := E0) hbag (.lst hoff (.inl (.inl hlst))) hl0 (by omega) fun v H1 hm k1 hh1 => ?_
    obtain ⟨t, zs, rfl, ht, g⟩ := hraw.mem v hm
    have ht1 := k1 _ _ (hbag.tupOff ht) ht
    have k01 := hsame.trans k1
    clear hm ht
    walk_at "rds"
    refine spMore.mk (m := 2) hh1 ht1 g (by decide) fun u ws H2 k2 hh2 hu gw => ?_
    walk_at "rds"
    exact spNamed.mk hh2 hu gw fun u ws H3 k3 hh3 hu gw => q u ws H3 ((k01.trans k2).trans k3) hh3 hu gw
theorem raw_a {z : Str} (h : z ∈ [("b" : Str), "bc", "bb", "ab"]) : RawB [("a" : Str) ++ z] := by
  simp only [List.mem_cons, List.not_mem_nil, or_false] at h
  rcases h with rfl | rfl | rfl | rfl
  · exact ⟨by decide, by decide, by decide +kernel, by decide +kernel, by decide +kernel⟩
  · exact ⟨by decide, by decide, by decide +kernel, by decide +kernel, by decide +kernel⟩
  · exact ⟨by decide, by decide, by decide +kernel, by decide +kernel, by decide +kernel⟩
  · exact ⟨by decide, by decide, by decide +kernel, by decide +kernel, by decide +kernel⟩
theorem ok_scant (T : Txt P K mg) : FnOk P w K mg base CX0 4 T.a_scant T.fd_scant ["_law_bag_here"] spDrawn := by
  have nd := sc_scant.nd
  have G_pick : FnOk P w K mg base CX0 3 T.a_pick T.fd_pick ["_law_bag_here", "_law_many"] spPick := (ok_pick T).mono (by decide)
  have G_some : FnOk P w K mg base CX0 3 T.a_some T.fd_some ["_law_bag_here", "_law_things"] (spSome K) := (ok_some T).mono (by decide)
  have G_more : FnOk P w K mg base CX0 3 T.a_more T.fd_more ["_law_bag_here", "_law_pieces", "_law_most"] spMore := ok_more T
  have G_named : FnOk P w K mg base CX0 3 T.a_named T.fd_named ["_law_bag_here", "_law_pieces"] spNamed := ok_named T
  refine T.F_scant.ok sc_scant (fun vs H Q E h => ?_) (fun cdv A outer s H vs Q E hr h => ?_)
  · obtain ⟨x, rfl, _⟩ := h
    rfl
  · obtain ⟨x, rfl, hh, q⟩ := h
    refine ⟨_, (pss_cons (ps_set (i := 1) nd rfl (by first | exact Or.inl rfl | exact Or.inr rfl) (pe_lst (pa_cons (pe_tup (pa_cons pe_str pa_nil)) (pa_cons (pe_tup (pa_cons pe_str (pa_cons pe_str pa_nil))) (pa_cons (pe_tup (pa_cons pe_str (pa_cons pe_str pa_nil))) (pa_cons (pe_tup (pa_cons pe_str (pa_cons pe_str pa_nil))) (pa_cons (pe_tup (pa_cons pe_str (pa_cons pe_str (pa_cons pe_str pa_nil)))) (pa_cons (pe_tup (pa_cons pe_str (pa_cons pe_str pa_nil))) (pa_cons (pe_tup (pa_cons pe_str pa_nil)) pa_nil)))))))))
  (pss_cons (ps_set (i := 1) nd rfl (by first | exact Or.inl rfl | exact Or.inr rfl) (pe_op op_cat (pv 1) (pe_lst (pa_cons (pe_tup (pa_cons pe_str (pa_cons pe_str (pa_cons pe_str (pa_cons pe_str pa_nil))))) (pa_cons (pe_tup (pa_cons pe_str (pa_cons pe_str (pa_cons pe_str pa_nil)))) (pa_cons (pe_tup (pa_cons pe_str pa_nil)) (pa_cons (pe_tup (pa_cons pe_str (pa_cons pe_str (pa_cons pe_str pa_nil)))) pa_nil)))))))
  (pss_cons (ps_if (pt_cmpR op_eq (pe_call G_pick hr (by rfl) T.g_pick T.F_pick.kp T.b_pick .nil pass0 (pa_cons (pv 0) (pa_cons pe_int pa_nil))) pe_int (nomark _))
    (pss_one (ps_ret (pe_call G_named hr (by rfl) T.g_named T.F_named.kp T.b_named .nil pass0 (pa_cons (pv 0) (pa_cons (pe_call G_more hr (by rfl) T.g_more T.F_more.kp T.b_more .nil pass0 (pa_cons (pv 0) (pa_cons (pe_tup (pa_cons (pe_op op_add_str pe_str (pe_call G_some hr (by rfl) T.g_some T.F_some.kp T.b_some .nil pass0 (pa_cons (pv 0) (pa_cons (pe_lst (pa_cons pe_str (pa_cons pe_str (pa_cons pe_str (pa_cons pe_str pa_nil))))) pa_nil)))) pa_nil)) (pa_cons pe_int pa_nil)))) pa_nil)))))
    pss_nil)
  (pss_one (ps_ret (pe_call G_named hr (by rfl) T.g_named T.F_named.kp T.b_named .nil pass0 (pa_cons (pv 0) (pa_cons (pe_call G_more hr (by rfl) T.g_more T.F_more.kp T.b_more .nil pass0 (pa_cons (pv 0) (pa_cons (pe_call G_some hr (by rfl) T.g_some T.F_some.kp T.b_some .nil pass0 (pa_cons (pv 0) (pa_cons (pv 1) pa_nil))) (pa_cons pe_int pa_nil)))) pa_nil)))))))), ?_⟩
    walk_at "rds"
    have hbag : BagOk H' x := by walk_at "hk"
    have hsame : SPE.KX x H H' := by walk_at "kx"
    have hoff : SPE.Off p' x := by walk_at "na"
    obtain ⟨L, hlst, hraw, hl0, hl1⟩ : ∃ L, H' p' = some (.lst L) ∧ RawA H' L ∧ Nat.ble 1 L.length = true ∧ Nat.ble L.length 1000 = true := ⟨_, hv, by walk_at "rwa", rfl, rfl⟩
    have hl0 := Nat.le_of_ble_eq_true hl0
    have hl1 := Nat.le_of_ble_eq_true hl1
    refine spPick.mk (E := E0) hbag (by decide) (by decide) fun r H1 _ _ k1 hh1 => ?_
    have hlst1 := k1 _ _ hoff hlst
    have hraw1 : ∀ v, v ∈ L → Raw H1 v := fun v hv => by
      obtain ⟨t, zs, e, ht, g⟩ := hraw.mem v hv
      exact ⟨t, zs, e, k1 _ _ (hbag.tupOff ht) ht, g⟩
    have k01 := hsame.trans k1
    generalize hb : p' = pl0 at hoff hlst1 ⊢
    clear hlst hraw hsame hbag hb
    walk_at "rds"
    refine RD.ite_d (fun _ => ?_) (fun _ => ?_)
    · walk_at "rds"
      have hbag2 : BagOk H' x := by walk_at "hk"
      have hs2 : SPE.KX x H1 H' := by walk_at "kx"
      refine spSome.mk (E := E0) hbag2 (.lst (by walk_at "na") (.inl (.inl (by walk_at "hp")))) (by show 0 < 4; decide) (by show 4 < _; decide) fun v H2 hm k2 hh2 => ?_
      obtain ⟨z, hz, rfl⟩ : ∃ z, z ∈ [("b" : Str), "bc", "bb", "ab"] ∧ v = .str z := by
        simp only [List.mem_cons, List.not_mem_nil, or_false] at hm
        rcases hm with rfl | rfl | rfl | rfl
        · exact ⟨_, by simp, rfl⟩
        · exact ⟨_, by simp, rfl⟩
        · exact ⟨_, by simp, rfl⟩
        · exact ⟨_, by simp, rfl⟩
      have gr := raw_a hz
      have hsz := (gr.size _ (List.mem_singleton.mpr rfl)).2
      have k02 := (k01.trans hs2).trans k2
      walk_at "rds"
      refine RB.addS (RD.szo (by have := app_size ("a" : Str) z; have e1 : ("a" : Str).length = ("a" : Str).cps.size := rfl; have e2 : z.length = z.cps.size := rfl; omega)) ?_
      walk_at "rds"
      refine spMore.mk (m := 4) (zs := [("a" : Str) ++ z]) (hh2.same (by assumption)) (by walk_at "hp") gr (by decide) fun u ws H5 k5 hh5 hu gw => ?_
      walk_at "rds"
      exact spNamed.mk hh5 hu gw fun u ws H6 k6 hh6 hu gw => q u ws H6 (((k02.trans (SPE.kx_of (by assumption))).trans k5).trans k6) hh6 hu gw
    · walk_at "rds"
      refine spSome.mk (E := E0) hh1 (.lst hoff (.inl (.inl hlst1))) hl0 (by omega) fun v H2 hm k2 hh2 => ?_
      obtain ⟨t, zs, rfl, ht, g⟩ := hraw1 v hm
      have ht2 := k2 _ _ (hh1.tupOff ht) ht
      have k02 := k01.trans k2
      clear hm ht
      walk_at "rds"
      refine spMore.mk (m := 1) hh2 ht2 g (by decide) fun u ws H3 k3 hh3 hu gw => ?_
      walk_at "rds"
      exact spNamed.mk hh3 hu gw fun u ws H4 k4 hh4 hu gw => q u ws H4 ((k02.trans k3).trans k4) hh4 hu gw
end


end K27

namespace K27
open PySem PySem.Spec PyProof.Rows L2
local macro_rules | `(tactic| walk_at "kd") => `(tactic| first | assumption | exact SPD.KdOf.int _ | exact SPD.KdOf.str _ | exact SPD.KdOf.bl _ | exact SPD.KdOf.non | exact SPD.KdOf.same (by assumption) (by walk_at "kd") | exact SPD.KdOf.tup (by walk_at "hp") | exact SPD.KdOf.lst (by walk_at "hp") | fail "no")
local macro_rules | `(tactic| walk_at "ne") => `(tactic| first | assumption | exact Ne.symm (by assumption) | fail "no")
local macro_rules | `(tactic| walk_at "hp") => `(tactic| first | assumption | exact RD.at_same (by assumption) (by walk_at "hp") | exact RD.at_kb (by assumption) (by walk_at "ne") (by walk_at "hp") | fail "no")
local macro_rules | `(tactic| walk_at "sq") => `(tactic| first | assumption | exact Or.inl (Or.inl (by walk_at "hp")) | exact Same.seq (by assumption) (by walk_at "sq") | exact RD.KB.seq (by assumption) (by walk_at "ne") (by walk_at "sq") | fail "no")
local macro_rules | `(tactic| walk_at "st") => `(tactic| first | assumption | exact Or.inl (Or.inl (by walk_at "hp")) | exact RD.Same.tup (by assumption) (by walk_at "st") | exact RD.KB.tup (by assumption) (by walk_at "ne") (by walk_at "st") | fail "no")
local macro_rules | `(tactic| walk_at "rd") => `(tactic| first
  | with_reducible refine RD.c ?_
  | ((with_reducible refine' RD.var ?rdE ?rdK); (case rdE => exact rfl))
  | with_reducible refine RD.op ?_
  | with_reducible refine RD.un ?_
  | with_reducible refine RD.nil ?_
  | with_reducible refine RD.cons ?_
  | with_reducible refine RD.cb ?_
  | with_reducible refine RD.call ?_
  | with_reducible refine RD.test ?_
  | with_reducible refine RD.tb' ?_
  | with_reducible refine RD.bl ?_
  | with_reducible refine RD.and' ?_
  | with_reducible refine RD.or' ?_
  | with_reducible refine RD.not' ?_
  | with_reducible refine RD.andV ?_
  | with_reducible refine RD.orV ?_
  | with_reducible refine RD.notV ?_
  | with_reducible refine RD.ife ?_
  | with_reducible refine RD.sl ?_
  | with_reducible refine RD.part ?_
  | with_reducible refine RD.noPart ?_
  | with_reducible refine RD.partI ?_
  | with_reducible refine RD.rd0 ?_
  | with_reducible refine RD.rdU ?_
  | ((with_reducible refine' RD.rdEq ?rdE ?rdK); (case rdE => rfl))
  | ((with_reducible refine' RD.rdNe ?rdE ?rdK); (case rdE => rfl))
  | ((with_reducible refine' RD.ixL ?rdH ?rdE ?rdK); (case rdH => walk_at "sq"); (case rdE => first | rfl | assumption))
  | ((with_reducible refine' RD.rdI ?rdC ?rdK); (case rdC => first | assumption | (show (0 : Int) < _; first | decide | omega) | exact ⟨by decide, by decide⟩ | exact ⟨by assumption, by assumption⟩ | exact .inr ⟨by decide, by decide⟩ | exact .inl ⟨by decide, by decide⟩ | exact ⟨by decide, by decide, by decide⟩ | exact .inl ⟨by omega, by omega⟩))
  | ((with_reducible refine' RD.setL ?rdH ?rdE ?rdK); (case rdH => walk_at "hp"); (case rdE => rfl); intro $(Lean.mkIdent `H'):ident $(Lean.mkIdent `hk):ident $(Lean.mkIdent `hv):ident)
  | ((with_reducible refine' RD.irng1V ?rdA ?rdB ?rdK); (case rdA => first | decide | omega); (case rdB => first | decide | omega))
  | with_reducible refine RD.int1 ?_
  | with_reducible refine RD.abs1 ?_
  | ((with_reducible refine' RD.len ?rdH ?rdK); (case rdH => first | exact Or.inl (by walk_at "sq") | exact Or.inr (by walk_at "st")))
  | with_reducible refine RD.tup ?_
  | with_reducible refine RD.lst ?_
  | with_reducible refine RD.ite1 ?_
  | with_reducible refine RD.ite0 ?_
  | with_reducible refine RD.ite1n ?_
  | with_reducible refine RD.ite0n ?_
  | with_reducible refine RD.seq ?_
  | with_reducible refine RD.asg ?_
  | with_reducible refine RD.name ?_
  | with_reducible refine RD.ret ?_
  | with_reducible refine RD.drop ?_
  | with_reducible refine RD.next ?_
  | with_reducible refine RD.ifs ?_
  | with_reducible refine RD.par ?_
  | with_reducible refine RD.par2 ?_
  | with_reducible refine RD.sub ?_
  | with_reducible refine RD.gcons ?_
  | with_reducible refine RD.gnil ?_
  | with_reducible refine RD.bm ?_
  | ((with_reducible refine' RD.bmL ?rdH ?rdK); (case rdH => walk_at "sq"))
  | ((with_reducible refine' RD.newZ ?rdH ?rdK); (case rdH => exact RD.sz _); intro $(Lean.mkIdent `p'):ident $(Lean.mkIdent `H'):ident $(Lean.mkIdent `hp):ident $(Lean.mkIdent `hs):ident $(Lean.mkIdent `hv):ident; (try have $(Lean.mkIdent `hn):ident := hand_ne $(Lean.mkIdent `hp):ident (by walk_at "hk")))
  | with_reducible refine RD.fors ?_
  | with_reducible refine RD.lc ?_
  | with_reducible refine RD.yes ?_
  | with_reducible refine RD.ilist ?_
  | ((with_reducible refine' RD.ilistV ?rdH ?rdK); (case rdH => walk_at "sq"))
  | with_reducible refine RD.itup ?_
  | ((with_reducible refine' RD.itupV ?rdH ?rdK); (case rdH => walk_at "st"))
  | with_reducible refine RD.irng1 ?_
  | with_reducible refine RD.irng2 ?_
  | ((with_reducible refine' RD.irng2V ?rdA ?rdK); (case rdA => first | decide | omega))
  | with_reducible refine RD.ienum ?_
  | ((with_reducible refine' RD.ienumV ?rdH ?rdK); (case rdH => walk_at "sq"))
  | with_reducible refine RD.izip ?_
  | ((with_reducible refine' RD.izipV ?rdH ?rdE ?rdK); (case rdH => walk_at "sq"); (case rdE => walk_at "sq"))
  | with_reducible refine SPD.izipA ?_
  | with_reducible refine RD.istr ?_
  | with_reducible refine RD.istrV ?_
  | ((with_reducible refine' RD.slL ?rdH ?rdK); (case rdH => walk_at "sq"); intro $(Lean.mkIdent `p'):ident $(Lean.mkIdent `H'):ident $(Lean.mkIdent `hp):ident $(Lean.mkIdent `hs):ident $(Lean.mkIdent `hv):ident; (try have $(Lean.mkIdent `hn):ident := hand_ne $(Lean.mkIdent `hp):ident (by walk_at "hk")))
  | ((with_reducible refine' RD.cat ?rdH ?rdE ?rdZ ?rdK); (case rdH => walk_at "hp"); (case rdE => walk_at "hp"); (case rdZ => exact RD.sz _); intro $(Lean.mkIdent `p'):ident $(Lean.mkIdent `H'):ident $(Lean.mkIdent `hp):ident $(Lean.mkIdent `hs):ident $(Lean.mkIdent `hv):ident; (try have $(Lean.mkIdent `hn):ident := hand_ne $(Lean.mkIdent `hp):ident (by walk_at "hk")))
  | ((with_reducible refine' RD.gtup ?rdH ?rdE ?rdK); (case rdH => walk_at "st"); (case rdE => rfl))
  | ((with_reducible refine' RD.app ?rdH ?rdZ ?rdK); (case rdH => walk_at "hp"); (case rdZ => first | assumption | (apply RD.szl; omega)); intro $(Lean.mkIdent `H'):ident $(Lean.mkIdent `hk):ident $(Lean.mkIdent `hv):ident)
  | ((with_reducible refine' RD.all1 ?rdH ?rdK); (case rdH => walk_at "sq"))
  | ((with_reducible refine' RD.any1 ?rdH ?rdK); (case rdH => walk_at "sq"))
  | ((with_reducible refine' SPD.dnew ?rdK); intro $(Lean.mkIdent `p'):ident $(Lean.mkIdent `H'):ident $(Lean.mkIdent `hp):ident $(Lean.mkIdent `hs):ident $(Lean.mkIdent `hv):ident; (try have $(Lean.mkIdent `hn):ident := hand_ne $(Lean.mkIdent `hp):ident (by walk_at "hk")))
  | ((with_reducible refine' SPD.disp1 ?rdK); intro $(Lean.mkIdent `p'):ident $(Lean.mkIdent `H'):ident $(Lean.mkIdent `hp):ident $(Lean.mkIdent `hs):ident $(Lean.mkIdent `hv):ident; (try have $(Lean.mkIdent `hn):ident := hand_ne $(Lean.mkIdent `hp):ident (by walk_at "hk")))
  | ((with_reducible refine' SPD.isSeq ?rdH ?rdE ?rdK); (case rdH => walk_at "hp"); (case rdE => walk_at "kd"))
  | ((with_reducible refine' SPD.isTup ?rdE ?rdK); (case rdE => walk_at "kd"))
  | ((with_reducible refine' SPD.isLst ?rdE ?rdK); (case rdE => walk_at "kd"))
  | ((with_reducible refine' SPD.isBool ?rdE ?rdK); (case rdE => walk_at "kd"))
  | ((with_reducible refine' SPD.isStr ?rdE ?rdK); (case rdE => walk_at "kd"))
  | ((with_reducible refine' SPD.isInt ?rdE ?rdK); (case rdE => walk_at "kd"))
  | dsimp only)
local macro_rules | `(tactic| walk_at "rds") => `(tactic| repeat walk_at "rd")
local macro_rules | `(tactic| walk_at "sm") => `(tactic| first | assumption | exact Same.refl _ | exact RD.sm_tr (by assumption) (by walk_at "sm") | fail "no")
local macro_rules | `(tactic| walk_at "kb") => `(tactic| first | assumption | exact RD.KB.refl | exact RD.kb_tr (by assumption) (by walk_at "kb") | exact RD.kb_trs (by assumption) (by walk_at "kb") | fail "no")
local macro_rules | `(tactic| walk_at "fr") => `(tactic| first | assumption | exact RD.fr_of (by assumption) (by walk_at "sm") | fail "no")
local macro_rules | `(tactic| walk_at "hk") => `(tactic| first | assumption | exact hand_same (by assumption) (by walk_at "hk") | exact hand_kb (by assumption) (by walk_at "fr") (by walk_at "hk") | fail "no")
local macro_rules | `(tactic| walk_at "na") => `(tactic| first | assumption | exact hand_ne (by assumption) (by walk_at "hk") | fail "no")
local macro_rules | `(tactic| walk_at "dqa") => `(tactic| first | exact SPD.DqA.nil | exact SPD.DqA.cons (by walk_at "dq") (by walk_at "dqa") | exact SPD.DqA.app (by walk_at "dqa") (by walk_at "dqa") | fail "no")
local macro_rules | `(tactic| walk_at "dq") => `(tactic| first | assumption | exact SPD.Dq.leaf rfl | exact SPD.dq_kb (by assumption) (by walk_at "kb") | exact SPD.dqTup (by walk_at "hp") (by walk_at "na") (by walk_at "dqa") | exact SPD.dqLst (by walk_at "hp") (by walk_at "na") (by walk_at "dqa") | exact SPD.dqNil (by walk_at "hp") (by walk_at "na") (by first | decide | simp) (by first | decide | simp) | fail "no")

local macro_rules | `(tactic| walk_at "rd") => `(tactic| first
  | with_reducible refine RB.chain ?_
  | with_reducible refine RB.m1 ?_
  | with_reducible refine RB.strE ?_
  | with_reducible refine RB.fld ?_
  | with_reducible refine RB.setF ?_
  | with_reducible refine RB.ss ?_
  | with_reducible refine RB.rev ?_
  | with_reducible refine RB.make ?_
  | with_reducible refine RB.makeS ?_
  | with_reducible refine RB.mkO ?_
  | with_reducible refine NR.ienumT ?_
  | with_reducible refine RB.inS ?_
  | with_reducible refine RB.bmS ?_
  | with_reducible refine RB.callS ?_
  | with_reducible refine RB.sw3 ?_
  | with_reducible refine RB.par3 ?_
  | with_reducible refine RB.par3V ?_
  | ((with_reducible refine' RB.slS ?rdH ?rdK); (case rdH => walk_at "sz"))
  | with_reducible refine RB.xf ?_
  | ((with_reducible refine' RB.xfV ?rdH ?rdE ?rdK); (case rdH => walk_at "hp"); (case rdE => rfl))
  | ((with_reducible refine' NR.ienumTV ?rdH ?rdK); (case rdH => walk_at "st"))
  | ((with_reducible refine' RB.lenL ?rdH ?rdK); (case rdH => walk_at "sq"))
  | ((with_reducible refine' RB.lenT ?rdH ?rdK); (case rdH => walk_at "st"))
  | ((with_reducible refine' RB.lenS ?rdH ?rdK); (case rdH => walk_at "sz"))
  | ((with_reducible refine' RD.lenS ?rdH ?rdK); (case rdH => walk_at "sz"))
  | ((with_reducible refine' RB.slT ?rdH ?rdK); (case rdH => walk_at "hp"); intro $(Lean.mkIdent `p'):ident $(Lean.mkIdent `H'):ident $(Lean.mkIdent `hs):ident $(Lean.mkIdent `hv):ident $(Lean.mkIdent `hp):ident; (try have $(Lean.mkIdent `hn):ident := two_ne $(Lean.mkIdent `hp):ident (by walk_at "na") (by walk_at "hk")))
  | ((with_reducible refine' RB.revV ?rdH ?rdK); (case rdH => walk_at "st"); intro $(Lean.mkIdent `p'):ident $(Lean.mkIdent `H'):ident $(Lean.mkIdent `hp):ident $(Lean.mkIdent `hs):ident $(Lean.mkIdent `hv):ident; (try have $(Lean.mkIdent `hn):ident := hand_ne $(Lean.mkIdent `hp):ident (by walk_at "hk")))
  | ((with_reducible refine' RB.listS ?rdH ?rdK); (case rdH => walk_at "sz"); intro $(Lean.mkIdent `p'):ident $(Lean.mkIdent `H'):ident $(Lean.mkIdent `hp):ident $(Lean.mkIdent `hs):ident $(Lean.mkIdent `hv):ident; (try have $(Lean.mkIdent `hn):ident := hand_ne $(Lean.mkIdent `hp):ident (by walk_at "hk")))
  | ((with_reducible refine' RB.listO ?rdH ?rdK); (case rdH => first | exact Or.inl (by walk_at "sq") | exact Or.inr (by walk_at "st")); intro $(Lean.mkIdent `p'):ident $(Lean.mkIdent `H'):ident $(Lean.mkIdent `hp):ident $(Lean.mkIdent `hs):ident $(Lean.mkIdent `hv):ident; (try have $(Lean.mkIdent `hn):ident := hand_ne $(Lean.mkIdent `hp):ident (by walk_at "hk")))
  | ((with_reducible refine' RB.tupL ?rdH ?rdK); (case rdH => walk_at "sq"); intro $(Lean.mkIdent `p'):ident $(Lean.mkIdent `H'):ident $(Lean.mkIdent `hp):ident $(Lean.mkIdent `hs):ident $(Lean.mkIdent `hv):ident; (try have $(Lean.mkIdent `hn):ident := hand_ne $(Lean.mkIdent `hp):ident (by walk_at "hk")))
  | ((with_reducible refine' RB.catT ?rdH ?rdE ?rdZ ?rdK); (case rdH => walk_at "hp"); (case rdE => walk_at "hp"); (case rdZ => exact RB.LN.sum (by walk_at "ln") (by walk_at "ln") rfl); intro $(Lean.mkIdent `p'):ident $(Lean.mkIdent `H'):ident $(Lean.mkIdent `hs):ident $(Lean.mkIdent `hv):ident $(Lean.mkIdent `hp):ident; (try have $(Lean.mkIdent `hn):ident := three_ne $(Lean.mkIdent `hp):ident (by walk_at "na") (by walk_at "na") (by walk_at "hk")))
  | fail "no")
local macro_rules | `(tactic| walk_at "ln") => `(tactic| first | with_reducible assumption | exact RB.LN.cut (by walk_at "ln") | exact RB.LN.app (by walk_at "ln") (by walk_at "ln") | exact RB.LN.rev (by walk_at "ln") | exact RB.LN.rep (by walk_at "ln") | exact RB.LN.lit rfl | fail "no")
local macro_rules | `(tactic| walk_at "sz") => `(tactic| first | assumption | exact RD.sz _ | fail "no")

local macro_rules | `(tactic| walk_at "dk") => `(tactic| first | exact FR.rd_of (by walk_at "hp") | exact Or.inr ⟨_, by walk_at "hp"⟩ | fail "no")
local macro_rules | `(tactic| walk_at "rd") => `(tactic| first
  | with_reducible refine FR.dget ?_
  | with_reducible refine FR.din ?_
  | with_reducible refine FR.dnotin ?_
  | with_reducible refine FR.dc ?_
  | with_reducible refine FR.ikeys ?_
  | with_reducible refine FR.ivals ?_
  | with_reducible refine FR.bm0 ?_
  | ((with_reducible refine' FR.dinS ?rdH ?rdK); (case rdH => walk_at "dk"))
  | ((with_reducible refine' FR.keysV ?rdH ?rdK); (case rdH => walk_at "hp"))
  | ((with_reducible refine' FR.valsV ?rdH ?rdK); (case rdH => walk_at "hp"))
  | ((with_reducible refine' FR.bmD ?rdH ?rdK); (case rdH => walk_at "hp"))
  | with_reducible refine FR.ckw ?_
  | with_reducible refine FR.dget2 ?_
  | ((with_reducible refine' FR.isdV ?rdH ?rdK); (case rdH => walk_at "dk"))
  | ((with_reducible refine' FR.dg2S ?rdH ?rdK); (case rdH => walk_at "dk"))
  | ((with_reducible refine' FR.lenD ?rdH ?rdK); (case rdH => walk_at "hp"))
  | fail "no")

local macro_rules | `(tactic| walk_at "rd") => `(tactic| first
  | with_reducible refine BH.iitems ?_
  | with_reducible refine BH.revl ?_
  | ((with_reducible refine' BH.dg2I ?rdH ?rdK); (case rdH => walk_at "dk"))
  | ((with_reducible refine' BH.catN ?rdH ?rdE ?rdZ ?rdK); (case rdH => walk_at "hp"); (case rdE => walk_at "hp"); (case rdZ => assumption); intro $(Lean.mkIdent `p'):ident $(Lean.mkIdent `H'):ident $(Lean.mkIdent `hs):ident $(Lean.mkIdent `hv):ident)
  | fail "no")

/-! ### idle ends -/
def tl (z : Str) : List Nat := z.cps.toList
def tls (zs : List Str) : List (List Nat) := zs.map tl
/-- the table from lo on -/
structure EndsAt (H : Hp) (ps : List (List Nat)) (L : List Nat) (lo : Nat) (vs : List V) : Prop where
  len : vs.length = L.length + 1
  at_ : ∀ b, lo ≤ b → b ≤ L.length → ∃ d ns, vs[b]? = some (.ref d) ∧ H d = some (.dK (IK.tt ns)) ∧ ns.Nodup ∧ ∀ e, e ∈ ns ↔ IL.I ps L b e
theorem EndsAt.same {H H' : Hp} {ps : List (List Nat)} {L : List Nat} {lo : Nat} {vs : List V} (s : Same H H') (h : EndsAt H ps L lo vs) : EndsAt H' ps L lo vs := ⟨h.len, fun b h1 h2 => by
  obtain ⟨d, ns, e1, e2, e3⟩ := h.at_ b h1 h2
  exact ⟨d, ns, e1, s _ _ e2, e3⟩⟩
theorem dispI {tk : TE} {n : Int} {v : V} {σ : L2.St} {H : Hp} {Q : VK} (hk : ∀ H' (R : VK), R (.int n) H' → tk σ H' R) (h : ∀ p H2, H p = none → Same H H2 → H2 p = some (.dK [(Sum.inl n, v)]) → Q (.ref p) H2) : tDisp [(tk, tC v)] σ H Q :=
  SPD.dispC [(Sum.inl n, v)] (fun _ _ q => hk _ _ q) (by show 1 ≤ 15; decide) h
theorem rng3 {ta : TA} {σ : L2.St} {H : Hp} {R : It → Hp → Prop} (h : ta σ H fun vs H1 => ∃ (i j c : Int) (n : Nat), vs = [.int i, .int j, .int c] ∧ RgC i j c n ∧ R (Itc i c n) H1) : iRng3 ta σ H R := h
theorem tl_at {z : Str} {k c : Nat} (h : (tl z)[k]? = some c) : atI z.cps.toList (k : Int) = some c := by
  obtain ⟨hl, _⟩ := List.getElem?_eq_some_iff.mp h
  have hl : k < z.cps.toList.length := hl
  unfold atI ixN
  rw [if_pos (by omega), if_pos (by omega)]
  show z.cps.toList[((k : Int)).toNat]? = _
  rw [Int.toNat_natCast]
  exact h
theorem tl_one {y : Str} {a : Nat} (h : (tl y)[0]? = some a) : (tl y).take (0 + 1) = [a] := by
  cases e : tl y with
  | nil => rw [e] at h; cases h
  | cons c r =>
    rw [e] at h
    have h : c = a := Option.some.inj h
    rw [h]
    rfl
theorem tl_drop (z : Str) (i : Nat) : tl (cutS z (some (i : Int)) none) = (tl z).drop i := by
  show ((tl z).drop (HT.sIx z.length 0 (some (i : Int)))).take (HT.sIx z.length z.length none - HT.sIx z.length 0 (some (i : Int))) = _
  rw [HT.sIx_none, HT.sIx_nat]
  have e : z.length = (tl z).length := Array.length_toList.symm
  rw [e]
  rcases Nat.le_total i (tl z).length with h | h
  · rw [Nat.min_eq_left h]
    exact List.take_of_length_le (by rw [List.length_drop]; omega)
  · rw [Nat.min_eq_right h, List.drop_of_length_le h, List.drop_length, List.take_nil]
theorem at_nat {xs : List V} {n : Nat} {v : V} (h : xs[n]? = some v) : atI xs (n : Int) = some v := by
  obtain ⟨hl, _⟩ := List.getElem?_eq_some_iff.mp h
  unfold atI ixN
  rw [if_pos (by omega), if_pos (by omega)]
  show xs[((n : Int)).toNat]? = _
  rw [Int.toNat_natCast, h]
/-- the ends found from k on with the pieces ps -/
def Found (qs ps : List (List Nat)) (L : List Nat) (k : Nat) (fs : List Nat) : Prop := fs.Nodup ∧ ∀ e, e ∈ fs ↔ e = k ∨ ∃ p, p ∈ qs ∧ ∃ x, IK.Spots ps L k p x ∧ IL.I ps L x e
def SpotsAt (ps : List (List Nat)) (L : List Nat) (k : Nat) (p : List Nat) (xs : List Nat) : Prop := xs.Nodup ∧ ∀ x, x ∈ xs ↔ IK.Spots ps L k p x
def spIdleEnds (C : Addr) : Sp := fun vs H Q _ => ∃ (b t : Addr) (zs : List Str) (z : Str), vs = [.ref b, .str z] ∧ BookAt H C b t ∧ H t = some (.tup (zs.map V.str)) ∧ Good zs ∧ z.cps.size ≤ 200 ∧ ∀ l ws H', H l = none → Same H H' → H' l = some (.lst ws) → EndsAt H' (tls zs) (tl z) 0 ws → Q (.ref l) H'
section
variable {P : Program} {w : World} {K : PySem.W.Frag} {mg : Str → Option Value} {base : Heap}
theorem ok_q_idle_ends (T : Txt P K mg) : FnOk P w K mg base CX0 1 T.a_q_idle_ends T.fd_q_idle_ends ["book", "log"] (spIdleEnds T.C_Book) := by
  have nd := sc_q_idle_ends.nd
  refine T.F_q_idle_ends.ok sc_q_idle_ends (fun vs H Q E h => ?_) (fun cdv A outer s H vs Q E hr h => ?_)
  · obtain ⟨b, t, zs, z, rfl, _⟩ := h
    rfl
  · obtain ⟨b, t, zs, z, rfl, ⟨dx, hb⟩, ht, g, hz, q⟩ := h
    refine ⟨_, (pss_cons (ps_set (i := 2) nd rfl (by first | exact Or.inl rfl | exact Or.inr rfl) (pe_op op_cat (pe_op op_rep (pe_lst (pa_cons pe_non pa_nil)) (pe_callB call_len_str (by rfl) T.m_len PySem.boot_len (pa_cons (pv 1) pa_nil))) (pe_lst (pa_cons (pe_disp (pps_cons (pe_callB call_len_str (by rfl) T.m_len PySem.boot_len (pa_cons (pv 1) pa_nil)) pe_bl pps_nil) (by rfl) (by rfl) (fun z => by cases z) (by decide)) pa_nil))))
  (pss_cons (ps_for PassesOwn.never rfl (pi_range3 (by rfl) T.m_range (pa_cons (pe_op op_sub (pe_callB call_len_str (by rfl) T.m_len PySem.boot_len (pa_cons (pv 1) pa_nil)) pe_int) (pa_cons (pe_un un_neg pe_int) (pa_cons (pe_un un_neg pe_int) pa_nil)))) (pg_name (i := 3) nd rfl (by first | exact Or.inl rfl | exact Or.inr rfl))
    (pss_cons (ps_set (i := 4) nd rfl (by first | exact Or.inl rfl | exact Or.inr rfl) (pe_disp (pps_cons (pv 3) pe_bl pps_nil) (by rfl) (by rfl) (fun z => by cases z) (by decide)))
  (pss_cons (ps_for PassesOwn.never rfl (pi_tup (pe_fld (pv 0) rfl)) (pg_name (i := 5) nd rfl (by first | exact Or.inl rfl | exact Or.inr rfl))
    (Evl.pss_cut (ps_set (i := 6) nd rfl (by first | exact Or.inl rfl | exact Or.inr rfl) (pe_ifExp (pt_cmpR op_eq (pe_ix ix_str (pv 5) pe_int (fun _ _ => rfl)) (pe_ix ix_str (pv 1) (pv 3) (fun _ _ => rfl)) (nomark _)) (pe_disp (pps_cons (pe_op op_add (pv 3) pe_int) pe_bl pps_nil) (by rfl) (by rfl) (fun z => by cases z) (by decide)) pe_dnewK))
  (pss_cons (ps_for PassesOwn.never rfl (pi_str (pe_slice sl_str (pv 5) (po_some pe_int) po_none)) (pg_name (i := 7) nd rfl (by first | exact Or.inl rfl | exact Or.inr rfl))
    (pss_cons (ps_set (i := 8) nd rfl (by first | exact Or.inl rfl | exact Or.inr rfl) pe_dnewK)
  (pss_cons (ps_lock (ps_for PassesOwn.never rfl (pi_keys (pv 6)) (pg_name (i := 9) nd rfl (by first | exact Or.inl rfl | exact Or.inr rfl))
    (pss_one (ps_expr (pe_bm PySem.F.plainAttrs_dict PySem.F.slot_dict_update PySem.F.type_dict_update FR.mt_updD (pv 8) (pa_cons (pe_lock (pe_dc (own := [("here", 10)]) (g := (gName 10)) rfl nd (pi_keys (pe_ix ix_list (pv 2) (pv 9) (fun _ _ => rfl))) (blkOk_by (own := [("here", 10)]) (N := N_q_idle_ends) (sc := defScope s_q_idle_ends) (by decide +kernel)) (fun _ _ _ _ _ => (pg_name (i := 10) nd rfl (Or.inl rfl))) (fun _ _ _ _ _ => (pts_one (PW.pt (pw_and (pt_cmpR op_lt (pv 10) (pe_callB call_len_str (by rfl) T.m_len PySem.boot_len (pa_cons (pv 1) pa_nil)) (nomark _)) (pw_and1 (pt_cmpR op_eq (pe_ix ix_str (pv 1) (pv 10) (fun _ _ => rfl)) (pv 7) (nomark _))))))) (fun _ _ _ _ _ => (pe_op op_add (pv 10) pe_int)) (fun _ _ _ _ _ => pe_bl))) pa_nil))))))
  (pss_one (ps_set (i := 6) nd rfl (by first | exact Or.inl rfl | exact Or.inr rfl) (pv 8))))))
  (pss_one (ps_lock (ps_for PassesOwn.never rfl (pi_keys (pv 6)) (pg_name (i := 9) nd rfl (by first | exact Or.inl rfl | exact Or.inr rfl))
    (pss_one (ps_expr (pe_bm PySem.F.plainAttrs_dict PySem.F.slot_dict_update PySem.F.type_dict_update FR.mt_updD (pv 4) (pa_cons (pe_ix ix_list (pv 2) (pv 9) (fun _ _ => rfl)) pa_nil))))))))))
  (pss_one (ps_asg (pv 4) (pg_sub (pv 2) (pv 3) set_list))))))
  (pss_one (ps_ret (pv 2))))), ?_⟩
    have hzl : z.length ≤ sizeLine := RD.szo (by show z.cps.size ≤ _; omega)
    have hn2 : z.length = (tl z).length := Array.length_toList.symm
    have hn3 : z.length = z.cps.size := rfl
    walk_at "rds"
    refine RB.repL hv ⟨⟨by omega, by omega⟩, RD.szo (by show 1 * _ ≤ _; omega)⟩ fun pr H1 hpr sr hvr => ?_
    have s1 := hs.trans sr
    have er : (List.replicate (Int.toNat (z.length : Int)) [V.non]).flatten = List.replicate z.length V.non := by
      rw [Int.toNat_natCast]
      generalize z.length = n
      induction n with
      | zero => rfl
      | succ n ih => rw [List.replicate_succ, List.replicate_succ, List.flatten_cons, ih]; rfl
    rw [er] at hvr
    clear hv hs hp sr
    walk_at "rds"
    refine dispI (n := (z.length : Int)) (fun H' R q => by walk_at "rds"; exact q) fun d0 Hd hd0 sd hvd => ?_
    walk_at "rds"
    refine RD.cat (hs _ _ (sd _ _ hvr)) hv (RD.szo (by rw [List.length_replicate]; show _ + 1 ≤ _; omega)) fun l H2 hl s2 hl2 => ?_
    have sx := ((s1.trans sd).trans hs).trans s2
    have hlH : H l = none := ((s1.trans sd).trans hs).free hl
    have hd2 : H2 d0 = some (.dK (IK.tt [z.length])) := s2 _ _ (hs _ _ hvd)
    clear hv hvd hvr hs hp sd s1 hpr hd0 s2 hl
    have e0 : EndsAt H2 (tls zs) (tl z) z.length (List.replicate z.length V.non ++ [.ref d0]) := by
      refine ⟨by rw [List.length_append, List.length_replicate, List.length_singleton, hn2], fun b h1 h2 => ?_⟩
      obtain rfl : b = z.length := by omega
      refine ⟨d0, [z.length], by rw [List.getElem?_append_right (by rw [List.length_replicate]; exact Nat.le_refl _), List.length_replicate, Nat.sub_self]; rfl, hd2, by simp, fun e => ?_⟩
      rw [List.mem_singleton]
      constructor
      · rintro rfl
        exact (IL.I.iff (by omega)).mpr (.inl rfl)
      · rintro ⟨h3, h4, _⟩
        omega
    generalize List.replicate z.length V.non ++ [V.ref d0] = ws0 at hl2 e0
    clear hd2
    walk_at "rds"
    refine rng3 ?_
    walk_at "rds"
    refine ⟨(z.length : Int) - 1, -1, -1, ((z.length : Int) - 1 - -1).toNat, rfl, RgC.neg (by omega) (by omega) (by decide) (by decide), ?_⟩
    rw [show ((z.length : Int) - 1 - -1).toNat = z.length by omega]
    refine RD.forW (walk_rangeC (lo := (z.length : Int) - 1) (c := -1) (n := z.length)) (fun i σ H' => ∃ (ws : List V) (x3 x4 x5 x6 x7 x8 x9 x10 : Option V), σ = [some (.ref b), some (.str z), some (.ref l), x3, x4, x5, x6, x7, x8, x9, x10] ∧ Same H H' ∧ H' l = some (.lst ws) ∧ EndsAt H' (tls zs) (tl z) (z.length - i) ws)
      ⟨ws0, _, _, _, _, _, _, _, _, rfl, sx, hl2, e0⟩ (fun _ _ _ _ _ => trivial) (fun i v σ H3 H4 hi hp hy => ?_) (fun σ H3 hp => ?_)
    · obtain ⟨ws, x3, x4, x5, x6, x7, x8, x9, x10, rfl, s3, hl3, e3⟩ := hp
      obtain ⟨rfl, rfl⟩ := hy
      clear sx hl2 e0
      obtain ⟨k, hk, hkl⟩ : ∃ k : Nat, (z.length : Int) - 1 + (i : Nat) * -1 = (k : Int) ∧ k + 1 = z.length - i := ⟨z.length - i - 1, by omega, by omega⟩
      show gName 3 (V.int ((z.length : Int) - 1 + (i : Nat) * -1)) _ _ _
      rw [hk]
      rw [← hkl] at e3
      have hkL : k < (tl z).length := by omega
      obtain ⟨ck, hck⟩ : ∃ ck, (tl z)[k]? = some ck := ⟨_, List.getElem?_eq_getElem hkL⟩
      walk_at "rds"
      refine dispI (n := (k : Int)) (fun H' R q => by walk_at "rds"; exact q) fun f H5 hf s5 hf5 => ?_
      have hf5 : H5 f = some (.dK (IK.tt [k])) := hf5
      have s05 := s3.trans s5
      walk_at "rds"
      refine RB.fldV (s05 _ _ hb) T.cl_Book T.no_Book_pieces rfl ?_
      have ht5 := s05 _ _ ht
      walk_at "rds"
      refine RD.forW (walk_tup (xs := zs.map V.str)) (fun j σ H' => ∃ (fs : List Nat) (x5 x6 x7 x8 x9 x10 : Option V), σ = [some (.ref b), some (.str z), some (.ref l), some (.int (k : Int)), some (.ref f), x5, x6, x7, x8, x9, x10] ∧ Same H4 H' ∧ H' f = some (.dK (IK.tt fs)) ∧ Found (tls (zs.take j)) (tls zs) (tl z) k fs)
        ⟨[k], _, _, _, _, _, _, rfl, s5, hf5, by simp, fun e => by simp [tls]⟩ (fun j σ H' _ ⟨_, _, _, _, _, _, _, _, s, _⟩ => .inl (.inl (s _ _ (s3 _ _ ht)))) (fun j v σ H6 H7 hj hp hy => ?_) (fun σ H6 hp => ?_)
      · obtain ⟨fs, x5, x6, x7, x8, x9, x10, rfl, s6, hf6, fd⟩ := hp
        obtain ⟨rfl, hx⟩ := hy
        clear s05 hf5 ht5 s5
        rw [List.getElem?_map] at hx
        obtain ⟨y, hyj, rfl⟩ := Option.map_eq_some_iff.mp hx
        have hpy := piece_size (g.piece y (List.mem_of_getElem? hyj))
        have hyl : y.length ≤ sizeLine := RD.szo (by show y.cps.size ≤ _; omega)
        have hy1 : 0 < (tl y).length := by rw [show (tl y).length = y.cps.size from Array.length_toList]; omega
        obtain ⟨a1, hya⟩ : ∃ a1, (tl y)[0]? = some a1 := ⟨_, List.getElem?_eq_getElem hy1⟩
        walk_at "rds"
        refine ⟨fun σ' H' => ∃ (sp : Addr) (xs : List Nat), σ' = [some (.ref b), some (.str z), some (.ref l), some (.int (k : Int)), some (.ref f), some (.str y), some (.ref sp), x7, x8, x9, x10] ∧ Same H7 H' ∧ H7 sp = none ∧ H' sp = some (.dK (IK.tt xs)) ∧ SpotsAt (tls zs) (tl z) k [a1] xs, ?_, fun σ1 H8 hm => ?_⟩
        · walk_at "rds"
          refine RD.ixS hyl (tl_at (k := 0) hya) ?_
          walk_at "rds"
          refine RD.ixS hzl (tl_at hck) ?_
          walk_at "rds"
          refine RD.ite_d (fun he => ?_) (fun he => ?_)
          · have hac : a1 = ck := by simpa using he
            refine dispI (n := (k : Int) + 1) (fun H' R q => by walk_at "rds"; exact q) fun sp H8 hsp s8 hv8 => ?_
            walk_at "rds"
            refine ⟨sp, [k + 1], rfl, s8, hsp, hv8, by simp, fun x => ?_⟩
            rw [List.mem_singleton, IK.spots_one (by omega), hck, hac]
            exact ⟨fun h => ⟨h, rfl⟩, fun h => h.1⟩
          · have hac : a1 ≠ ck := fun e => he (by rw [e])
            walk_at "rds"
            refine ⟨_, [], rfl, hs, hp, hv, List.nodup_nil, fun x => ?_⟩
            rw [IK.spots_one (by omega), hck]
            exact ⟨fun h => (List.not_mem_nil h).elim, fun h => absurd (Option.some.inj h.2).symm hac⟩
        obtain ⟨sp, xs, rfl, s8, hspn, hsp, hxs⟩ := hm
        walk_at "rds"
        refine RD.forW RB.w_str (fun m σ H' => ∃ (sp : Addr) (xs : List Nat) (x7 x8 x9 x10 : Option V), σ = [some (.ref b), some (.str z), some (.ref l), some (.int (k : Int)), some (.ref f), some (.str y), some (.ref sp), x7, x8, x9, x10] ∧ Same H7 H' ∧ H7 sp = none ∧ H' sp = some (.dK (IK.tt xs)) ∧ SpotsAt (tls zs) (tl z) k ((tl y).take (m + 1)) xs)
          ⟨sp, xs, _, _, _, _, rfl, s8, hspn, hsp, by rw [tl_one hya]; exact hxs⟩ (fun _ _ _ _ _ => trivial) (fun m v σ H9 H10 hm hp hy => ?_) (fun σ H9 hp => ?_)
        · obtain ⟨sp, xs, x7, x8, x9, x10, rfl, s9, hspn, hsp, hxs⟩ := hp
          obtain ⟨rfl, hx⟩ := hy
          rw [List.getElem?_map] at hx
          obtain ⟨c, hc, rfl⟩ := Option.map_eq_some_iff.mp hx
          have hc1 : (tl y)[m + 1]? = some c := by
            have h1 : (tl (cutS y (some ((1 : Nat) : Int)) none))[m]? = some c := hc
            rw [tl_drop, List.getElem?_drop, Nat.add_comm] at h1
            exact h1
          have htk : (tl y).take (m + 1 + 1) = (tl y).take (m + 1) ++ [c] := by rw [List.take_add_one, hc1]; rfl
          have htn : (tl y).take (m + 1) ≠ [] := fun e => by
            have h2 : ((tl y).take (m + 1)).length = 0 := congrArg List.length e
            have h3 := (List.getElem?_eq_some_iff.mp hc1).1
            rw [List.length_take] at h2
            omega
          have hcond : ∀ s, s ∈ xs → k < s ∧ s ≤ (tl z).length := fun s hs => IK.spots_le ((hxs.2 s).mp hs)
          walk_at "rds"
          have hlan : H7 p' = none := s9.free hp
          have nla : p' ≠ sp := (ne_of_none hsp hp).symm
          have s10 := s9.trans hs
          have hsp10 := hs _ _ hsp
          have hla10 : H' p' = some (.dK (IK.tt [])) := hv
          clear hs hv hp hsp s9
          generalize p' = la at hlan nla hla10 ⊢
          generalize H' = H11 at s10 hsp10 hla10 ⊢
          refine FR.lockS hsp10 fun od Hf kf hf2 => ?_
          have sf : Same H7 Hf := RD.same_mut kf s10 hspn
          have hlaf := kf _ _ nla hla10
          clear s10 hsp10 hla10 kf
          walk_at "rds"
          refine RD.forW FR.w_keys (fun j2 σ H' => ∃ (ys : List Nat) (x9 x10 : Option V), σ = [some (.ref b), some (.str z), some (.ref l), some (.int (k : Int)), some (.ref f), some (.str y), some (.ref sp), some (.str ⟨#[c]⟩), some (.ref la), x9, x10] ∧ Same H7 H' ∧ H' sp = some (.frz od (.dK (IK.tt xs))) ∧ H' la = some (.dK (IK.tt ys)) ∧ ys.Nodup ∧ ∀ x, x ∈ ys ↔ ∃ s, s ∈ xs.take j2 ∧ ∃ h, x = h + 1 ∧ IL.I (tls zs) (tl z) s h ∧ (tl z)[h]? = some c)
            ⟨[], _, _, rfl, sf, hf2, hlaf, List.nodup_nil, fun e => by simp⟩ (fun j2 σ H' _ ⟨_, _, _, _, _, h, _⟩ => h) (fun j2 v σ H12 H13 hj2 hp hy => ?_) (fun σ H12 hp => ?_)
          · obtain ⟨ys, x9, x10, rfl, s12, hsp12, hla12, ny, hys⟩ := hp
            obtain ⟨rfl, hx⟩ := hy
            rw [IK.tt_keys, List.getElem?_map] at hx
            obtain ⟨s, hsx, rfl⟩ := Option.map_eq_some_iff.mp hx
            obtain ⟨h1, h2⟩ := hcond s (List.mem_of_getElem? hsx)
            obtain ⟨d, ns, hws, hd4, nd2, hns⟩ := e3.at_ s (by omega) h2
            have s412 := s6.trans s12
            have hl12 := s412 _ _ hl3
            have hd12 := s412 _ _ hd4
            have hd7 := s6 _ _ hd4
            have nld : la ≠ d := (ne_of_none hd7 hlan).symm
            have nsd : sp ≠ d := (ne_of_none hd7 hspn).symm
            have nldl : l ≠ d := fun e => by
              rw [e, hd4] at hl3
              cases hl3
            clear sf hf2 hlaf
            walk_at "rds"
            refine FR.lockE hd12 fun od2 Hg kg hg => ?_
            have hlg := kg _ _ nldl hl12
            have hlag := kg _ _ nld hla12
            have hspg := kg _ _ nsd hsp12
            walk_at "rds"
            refine RD.ixL (.inl (.inl hlg)) (at_nat hws) ?_
            walk_at "rds"
            have hn1 : ns.length ≤ 201 := IK.few nd2 fun e he => by
              have := ((hns e).mp he).2.1
              omega
            have hy1 : ys.length ≤ 201 := IK.few ny fun e he => by
              obtain ⟨_, _, h, rfl, _, hl⟩ := (hys e).mp he
              have := (List.getElem?_eq_some_iff.mp hl).1
              omega
            refine FR.dcW FR.w_keys (by rw [IK.tt_len]; omega) fun D H14 hD s14 hv14 => ⟨fun i2 acc H' => Same Hg H' ∧ ∃ us, acc = IK.tt us ∧ us.Nodup ∧ ∀ x, x ∈ us ↔ ∃ h, h ∈ ns.take i2 ∧ x = h + 1 ∧ (tl z)[h]? = some c, ⟨s14, [], rfl, List.nodup_nil, fun x => by simp⟩, fun i2 acc H' _ p => p.1 _ _ hg, fun i2 v acc H15 H16 Z N hi2 hp hDa hy hZ hN => ?_, fun acc H15 hp hDa => ?_⟩
            · obtain ⟨s15, us, rfl, nu, hu⟩ := hp
              obtain ⟨rfl, hx⟩ := hy
              rw [IK.tt_keys, List.getElem?_map] at hx
              obtain ⟨h, hh, rfl⟩ := Option.map_eq_some_iff.mp hx
              have skip : (tl z)[h]? ≠ some c → ∀ x, x ∈ us ↔ ∃ h, h ∈ ns.take (i2 + 1) ∧ x = h + 1 ∧ (tl z)[h]? = some c := fun hne x => by
                rw [hu, List.take_add_one, hh]
                constructor
                · rintro ⟨h', a, b⟩
                  exact ⟨h', List.mem_append_left _ a, b⟩
                · rintro ⟨h', a, b⟩
                  rcases List.mem_append.mp a with a | a
                  · exact ⟨h', a, b⟩
                  · have : h' = h := by simpa using a
                    exact absurd (this ▸ b.2) hne
              walk_at "rds"
              refine ⟨rfl, ?_⟩
              walk_at "rds"
              refine RD.ite_d (fun hlt => ?_) (fun hge => ?_)
              · obtain ⟨c', hc'⟩ : ∃ c', (tl z)[h]? = some c' := ⟨_, List.getElem?_eq_getElem (show h < (tl z).length by omega)⟩
                walk_at "rds"
                refine RD.ixS hzl (tl_at hc') ?_
                walk_at "rds"
                refine RD.ite_d (fun he => ?_) (fun he => ?_)
                · have hac : c' = c := by simpa using he
                  subst hac
                  walk_at "rds"
                  refine hZ (IK.ki (h + 1)) _ _ hDa fun H17 k17 h17 => ⟨RD.same_mut k17 s15 hD, IK.put1 us (h + 1), IK.tt_put _ _, IK.put1_nodup nu _, fun x => ?_⟩
                  rw [IK.put1_mem, hu, List.take_add_one, hh]
                  constructor
                  · rintro (⟨h', a, b⟩ | e)
                    · exact ⟨h', List.mem_append_left _ a, b⟩
                    · exact ⟨h, List.mem_append_right _ (by simp), e, hc'⟩
                  · rintro ⟨h', a, b⟩
                    rcases List.mem_append.mp a with a | a
                    · exact .inl ⟨h', a, b⟩
                    · have : h' = h := by simpa using a
                      exact .inr (this ▸ b.1)
                · have hac : c' ≠ c := fun e => he (by rw [e])
                  exact hN _ hDa ⟨s15, us, rfl, nu, skip fun e => hac (by rw [hc'] at e; exact Option.some.inj e)⟩
              · exact hN _ hDa ⟨s15, us, rfl, nu, skip fun e => hge (by have := (List.getElem?_eq_some_iff.mp e).1; omega)⟩
            · obtain ⟨s15, us, rfl, nu, hu⟩ := hp
              rw [IK.tt_len, List.take_length] at hu
              refine FR.ul (s15 _ _ hg) fun H16 k16 e16 => ?_
              have s16 : Same H13 H16 := FR.unlock kg s15 k16 e16 hd12
              have hla16 := k16 _ _ nld (s15 _ _ hlag)
              have hD16 := k16 _ _ (ne_of_none hg hD).symm hDa
              have nlD : la ≠ D := ne_of_none hlag hD
              have nsl : sp ≠ la := fun e => nla e.symm
              have hu1 : us.length ≤ 201 := IK.few nu fun e he => by
                obtain ⟨h, _, rfl, hl⟩ := (hu e).mp he
                have := (List.getElem?_eq_some_iff.mp hl).1
                omega
              walk_at "rds"
              refine FR.upd1 hla16 hD16 nlD (by rw [IK.tt_len, IK.tt_len, sizeLine_eq]; omega) fun H17 k17 h17 => ⟨IK.putN ys us, _, _, rfl, RD.same_mut k17 (s12.trans s16) hlan, k17 _ _ nsl (s16 _ _ hsp12), by rw [h17, IK.tt_merge], IK.putN_nodup _ _ ny, fun x => ?_⟩
              rw [IK.putN_mem, hys, hu, List.take_add_one, hsx]
              constructor
              · rintro (⟨s', a, b⟩ | ⟨h, a, e, b⟩)
                · exact ⟨s', List.mem_append_left _ a, b⟩
                · exact ⟨s, List.mem_append_right _ (by simp), h, e, (hns h).mp a, b⟩
              · rintro ⟨s', a, h, e, b, d'⟩
                rcases List.mem_append.mp a with a | a
                · exact .inl ⟨s', a, h, e, b, d'⟩
                · have : s' = s := by simpa using a
                  subst this
                  exact .inr ⟨h, (hns h).mpr b, e, d'⟩
          · obtain ⟨ys, x9, x10, rfl, s12, hsp12, hla12, ny, hys⟩ := hp
            rw [IK.tt_len, List.take_length] at hys
            dsimp only
            refine FR.ul hsp12 fun H13 k13 e13 => ?_
            walk_at "rds"
            refine ⟨la, ys, _, _, _, _, rfl, RD.same_mut k13 s12 hspn, hlan, k13 _ _ nla hla12, ny, fun x => ?_⟩
            rw [hys, htk, IK.spots_more htn]
            constructor
            · rintro ⟨s, hs, h⟩
              exact ⟨s, (hxs.2 s).mp hs, h⟩
            · rintro ⟨s, hs, h⟩
              exact ⟨s, (hxs.2 s).mpr hs, h⟩
        · obtain ⟨sp, xs, x7, x8, x9, x10, rfl, s9, hspn, hsp, hxs⟩ := hp
          have hym : (tl y).take ((cutS y (some 1) none).cps.size + 1) = tl y := by
            refine List.take_of_length_le ?_
            have := congrArg List.length (tl_drop y 1)
            rw [List.length_drop, show (tl (cutS y (some ((1 : Nat) : Int)) none)).length = (cutS y (some 1) none).cps.size from Array.length_toList] at this
            omega
          rw [hym] at hxs
          have nfs : f ≠ sp := ne_of_none hf6 hspn
          have hf9 := s9 _ _ hf6
          walk_at "rds"
          refine FR.lockS hsp fun od Hf kf hf2 => ?_
          have sf : Same H7 Hf := RD.same_mut kf s9 hspn
          have hff := kf _ _ nfs hf9
          have hcond : ∀ s, s ∈ xs → k < s ∧ s ≤ (tl z).length := fun s hs => IK.spots_le ((hxs.2 s).mp hs)
          walk_at "rds"
          refine RD.forW FR.w_keys (fun j2 σ H' => ∃ (gs : List Nat) (x9 : Option V), σ = [some (.ref b), some (.str z), some (.ref l), some (.int (k : Int)), some (.ref f), some (.str y), some (.ref sp), x7, x8, x9, x10] ∧ Same H4 H' ∧ H' sp = some (.frz od (.dK (IK.tt xs))) ∧ H' f = some (.dK (IK.tt gs)) ∧ gs.Nodup ∧ ∀ e, e ∈ gs ↔ e ∈ fs ∨ ∃ s, s ∈ xs.take j2 ∧ IL.I (tls zs) (tl z) s e)
            ⟨fs, _, rfl, s6.trans sf, hf2, hff, fd.1, fun e => by simp⟩ (fun j2 σ H' _ ⟨_, _, _, _, h, _⟩ => h) (fun j2 v σ H11 H12 hj2 hp hy => ?_) (fun σ H11 hp => ?_)
          · obtain ⟨gs, x9, rfl, s11, hsp11, hf11, ng, hg⟩ := hp
            obtain ⟨rfl, hx⟩ := hy
            rw [IK.tt_keys, List.getElem?_map] at hx
            obtain ⟨s, hsx, rfl⟩ := Option.map_eq_some_iff.mp hx
            obtain ⟨h1, h2⟩ := hcond s (List.mem_of_getElem? hsx)
            obtain ⟨d, ns, hws, hd4, nd2, hns⟩ := e3.at_ s (by omega) h2
            have hl11 := s11 _ _ hl3
            have hd11 := s11 _ _ hd4
            have nfd : f ≠ d := (ne_of_none hd4 hf).symm
            walk_at "rds"
            refine RD.ixL (.inl (.inl hl11)) (at_nat hws) ?_
            walk_at "rds"
            have hn1 : ns.length ≤ 201 := IK.few nd2 fun e he => by
              have := ((hns e).mp he).2.1
              omega
            have hg1 : gs.length ≤ 201 := IK.few ng fun e he => by
              rcases (hg e).mp he with h | ⟨_, _, h⟩
              · rcases (fd.2 e).mp h with h | ⟨_, _, _, _, h⟩
                · omega
                · have := h.2.1
                  omega
              · have := h.2.1
                omega
            refine FR.upd1 hf11 hd11 nfd (by rw [IK.tt_len, IK.tt_len, sizeLine_eq]; omega) fun H13 k13 h13 => ⟨IK.putN gs ns, _, rfl, RD.same_mut k13 s11 hf, k13 _ _ nfs.symm hsp11, by rw [h13, IK.tt_merge], IK.putN_nodup _ _ ng, fun e => ?_⟩
            rw [IK.putN_mem, hg, hns, List.take_add_one, hsx, or_assoc]
            refine or_congr Iff.rfl ⟨?_, ?_⟩
            · rintro (⟨s', h, h'⟩ | h)
              · exact ⟨s', List.mem_append_left _ h, h'⟩
              · exact ⟨s, List.mem_append_right _ (by simp), h⟩
            · rintro ⟨s', h, h'⟩
              rcases List.mem_append.mp h with h | h
              · exact .inl ⟨s', h, h'⟩
              · have : s' = s := by simpa using h
                exact .inr (this ▸ h')
          · obtain ⟨gs, x9, rfl, s11, hsp11, hf11, ng, hg⟩ := hp
            rw [IK.tt_len, List.take_length] at hg
            dsimp only
            refine FR.ul hsp11 fun H13 k13 e13 => ?_
            refine ⟨gs, _, _, _, _, _, _, rfl, RD.same_mut k13 s11 (s6.free hspn), k13 _ _ nfs hf11, ng, fun e => ?_⟩
            rw [hg, fd.2, or_assoc, List.take_add_one, hyj]
            refine or_congr Iff.rfl ⟨?_, ?_⟩
            · rintro (⟨p, hp, h⟩ | ⟨x, hx, h⟩)
              · exact ⟨p, by unfold tls at hp ⊢; rw [List.map_append]; exact List.mem_append_left _ hp, h⟩
              · exact ⟨tl y, by unfold tls; rw [List.map_append]; exact List.mem_append_right _ (by simp), x, (hxs.2 x).mp hx, h⟩
            · rintro ⟨p, hp, x, hx, h⟩
              unfold tls at hp
              rw [List.map_append] at hp
              rcases List.mem_append.mp hp with hp | hp
              · exact .inl ⟨p, hp, x, hx, h⟩
              · have : p = tl y := by simpa using hp
                subst this
                exact .inr ⟨x, (hxs.2 x).mpr hx, h⟩
      · obtain ⟨fs, x5, x6, x7, x8, x9, x10, rfl, s6, hf6, fd⟩ := hp
        have hl6 := s6 _ _ hl3
        have hfH4 : H4 f = none := hf
        walk_at "rds"
        have hwl := e3.len
        have hne : ∀ p, p ∈ tls zs → p ≠ [] := fun p hp e => by
          obtain ⟨y, hy, rfl⟩ := List.mem_map.mp hp
          have h1 := (piece_size (g.piece y hy)).1
          have h2 : (tl y).length = 0 := congrArg List.length e
          rw [show (tl y).length = y.cps.size from Array.length_toList] at h2
          omega
        rw [List.length_map, List.take_length] at fd
        refine RD.setL hl6 (j := k) (by unfold ixN; rw [if_pos (by omega), if_pos (by omega), Int.toNat_natCast]) fun H7 k7 h7 => ?_
        refine ⟨ws.set k (.ref f), _, _, _, _, _, _, _, _, rfl, RD.same_mut k7 (s3.trans s6) hlH, h7, by rw [List.length_set]; exact hwl, fun e h1 h2 => ?_⟩
        by_cases ek : e = k
        · subst ek
          refine ⟨f, fs, by rw [List.getElem?_set_self (by omega)], k7 _ _ (ne_of_none hl3 hf).symm hf6, fd.1, fun x => ?_⟩
          rw [fd.2 x, IK.ends_of (by omega) hne]
        · obtain ⟨d, ns, e1, e2, e4, e5⟩ := e3.at_ e (by omega) h2
          refine ⟨d, ns, by rw [List.getElem?_set_ne (fun z => ek z.symm)]; exact e1, k7 _ _ (fun z => by rw [z, hl3] at e2; cases e2) (s6 _ _ e2), e4, e5⟩
    · obtain ⟨ws, x3, x4, x5, x6, x7, x8, x9, x10, rfl, s3, hl3, e3⟩ := hp
      rw [Nat.sub_self] at e3
      walk_at "rds"
      exact q _ _ _ hlH s3 hl3 e3
end

/-! ### is a log idle -/
def spRawIdle (C : Addr) : Sp := fun vs H Q _ => ∃ (b t : Addr) (zs : List Str) (z : Str), vs = [.ref b, .str z] ∧ BookAt H C b t ∧ H t = some (.tup (zs.map V.str)) ∧ Good zs ∧ z.cps.size ≤ 200 ∧ ∀ (r : Bool) H', (r = true ↔ IL.Idle (tls zs) (tl z)) → Same H H' → Q (.bl r) H'
/-- a thing is an idle log of at most sixty letters -/
def IdleV (zs : List Str) (v : V) : Prop := ∃ z, v = .str z ∧ logV v = true ∧ z.cps.size ≤ 60 ∧ IL.Idle (tls zs) (tl z)
def spIdle (C : Addr) : Sp := fun vs H Q _ => ∃ (x : Addr) (n : Nat) (b t : Addr) (zs : List Str) (v : V), vs = [.ref b, v] ∧ BookAt H C b t ∧ H t = some (.tup (zs.map V.str)) ∧ Good zs ∧ SPD.Dq x H n v ∧ ∀ (r : Bool) H', (r = true ↔ IdleV zs v) → Same H H' → Q (.bl r) H'
section
variable {P : Program} {w : World} {K : PySem.W.Frag} {mg : Str → Option Value} {base : Heap}
theorem ok_raw_is_idle (T : Txt P K mg) : FnOk P w K mg base CX0 2 T.a_raw_is_idle T.fd_raw_is_idle ["book", "log"] (spRawIdle T.C_Book) := by
  have nd := sc_raw_is_idle.nd
  have G_q_idle_ends : FnOk P w K mg base CX0 1 T.a_q_idle_ends T.fd_q_idle_ends ["book", "log"] (spIdleEnds T.C_Book) := ok_q_idle_ends T
  refine T.F_raw_is_idle.ok sc_raw_is_idle (fun vs H Q E h => ?_) (fun cdv A outer s H vs Q E hr h => ?_)
  · obtain ⟨b, t, zs, z, rfl, _⟩ := h
    rfl
  · obtain ⟨b, t, zs, z, rfl, hb, ht, g, hz, q⟩ := h
    refine ⟨_, (pss_one (ps_ret (pe_cmp (pc_din (SPE.room1 hr) (pe_callB call_len_str (by rfl) T.m_len PySem.boot_len (pa_cons (pv 1) pa_nil)) (pe_ix ix_list (pe_call G_q_idle_ends hr (by rfl) T.g_q_idle_ends T.F_q_idle_ends.kp T.b_q_idle_ends .nil pass0 (pa_cons (pv 0) (pa_cons (pv 1) pa_nil))) pe_int (fun _ _ => rfl)))))), ?_⟩
    have hzl : z.length ≤ sizeLine := RD.szo (by show z.cps.size ≤ _; omega)
    have hn2 : z.length = (tl z).length := Array.length_toList.symm
    walk_at "rds"
    refine ⟨b, t, zs, z, rfl, hb, ht, g, hz, fun l ws H1 hl s1 hl1 e1 => ?_⟩
    obtain ⟨d, ns, hws, hd, nd2, hns⟩ := e1.at_ 0 (Nat.le_refl _) (Nat.zero_le _)
    walk_at "rds"
    refine RD.ixL (.inl (.inl hl1)) (at_nat (n := 0) hws) ?_
    walk_at "rds"
    refine FR.dinI (.inl hd) ?_
    refine q _ _ ?_ s1
    rw [show valV (IK.tt ns) (Sum.inl (z.length : Int)) = valV (IK.tt ns) (IK.ki z.length) from rfl, IK.tt_val, decide_eq_true_eq, hns, hn2]
    exact IL.idle_all.symm
end


end K27

namespace K27
open PySem PySem.Spec PyProof.Rows L2
local macro_rules | `(tactic| walk_at "kd") => `(tactic| first | assumption | exact SPD.KdOf.int _ | exact SPD.KdOf.str _ | exact SPD.KdOf.bl _ | exact SPD.KdOf.non | exact SPD.KdOf.same (by assumption) (by walk_at "kd") | exact SPD.KdOf.tup (by walk_at "hp") | exact SPD.KdOf.lst (by walk_at "hp") | fail "no")
local macro_rules | `(tactic| walk_at "ne") => `(tactic| first | assumption | exact Ne.symm (by assumption) | fail "no")
local macro_rules | `(tactic| walk_at "hp") => `(tactic| first | assumption | exact RD.at_same (by assumption) (by walk_at "hp") | exact RD.at_kb (by assumption) (by walk_at "ne") (by walk_at "hp") | fail "no")
local macro_rules | `(tactic| walk_at "sq") => `(tactic| first | assumption | exact Or.inl (Or.inl (by walk_at "hp")) | exact Same.seq (by assumption) (by walk_at "sq") | exact RD.KB.seq (by assumption) (by walk_at "ne") (by walk_at "sq") | fail "no")
local macro_rules | `(tactic| walk_at "st") => `(tactic| first | assumption | exact Or.inl (Or.inl (by walk_at "hp")) | exact RD.Same.tup (by assumption) (by walk_at "st") | exact RD.KB.tup (by assumption) (by walk_at "ne") (by walk_at "st") | fail "no")
local macro_rules | `(tactic| walk_at "rd") => `(tactic| first
  | with_reducible refine RD.c ?_
  | ((with_reducible refine' RD.var ?rdE ?rdK); (case rdE => exact rfl))
  | with_reducible refine RD.op ?_
  | with_reducible refine RD.un ?_
  | with_reducible refine RD.nil ?_
  | with_reducible refine RD.cons ?_
  | with_reducible refine RD.cb ?_
  | with_reducible refine RD.call ?_
  | with_reducible refine RD.test ?_
  | with_reducible refine RD.tb' ?_
  | with_reducible refine RD.bl ?_
  | with_reducible refine RD.and' ?_
  | with_reducible refine RD.or' ?_
  | with_reducible refine RD.not' ?_
  | with_reducible refine RD.andV ?_
  | with_reducible refine RD.orV ?_
  | with_reducible refine RD.notV ?_
  | with_reducible refine RD.ife ?_
  | with_reducible refine RD.sl ?_
  | with_reducible refine RD.part ?_
  | with_reducible refine RD.noPart ?_
  | with_reducible refine RD.partI ?_
  | with_reducible refine RD.rd0 ?_
  | with_reducible refine RD.rdU ?_
  | ((with_reducible refine' RD.rdEq ?rdE ?rdK); (case rdE => rfl))
  | ((with_reducible refine' RD.rdNe ?rdE ?rdK); (case rdE => rfl))
  | ((with_reducible refine' RD.ixL ?rdH ?rdE ?rdK); (case rdH => walk_at "sq"); (case rdE => first | rfl | assumption))
  | ((with_reducible refine' RD.rdI ?rdC ?rdK); (case rdC => first | assumption | (show (0 : Int) < _; first | decide | omega) | exact ⟨by decide, by decide⟩ | exact ⟨by assumption, by assumption⟩ | exact .inr ⟨by decide, by decide⟩ | exact .inl ⟨by decide, by decide⟩ | exact ⟨by decide, by decide, by decide⟩ | exact .inl ⟨by omega, by omega⟩))
  | ((with_reducible refine' RD.setL ?rdH ?rdE ?rdK); (case rdH => walk_at "hp"); (case rdE => rfl); intro $(Lean.mkIdent `H'):ident $(Lean.mkIdent `hk):ident $(Lean.mkIdent `hv):ident)
  | ((with_reducible refine' RD.irng1V ?rdA ?rdB ?rdK); (case rdA => first | decide | omega); (case rdB => first | decide | omega))
  | with_reducible refine RD.int1 ?_
  | with_reducible refine RD.abs1 ?_
  | ((with_reducible refine' RD.len ?rdH ?rdK); (case rdH => first | exact Or.inl (by walk_at "sq") | exact Or.inr (by walk_at "st")))
  | with_reducible refine RD.tup ?_
  | with_reducible refine RD.lst ?_
  | with_reducible refine RD.ite1 ?_
  | with_reducible refine RD.ite0 ?_
  | with_reducible refine RD.ite1n ?_
  | with_reducible refine RD.ite0n ?_
  | with_reducible refine RD.seq ?_
  | with_reducible refine RD.asg ?_
  | with_reducible refine RD.name ?_
  | with_reducible refine RD.ret ?_
  | with_reducible refine RD.drop ?_
  | with_reducible refine RD.next ?_
  | with_reducible refine RD.ifs ?_
  | with_reducible refine RD.par ?_
  | with_reducible refine RD.par2 ?_
  | with_reducible refine RD.sub ?_
  | with_reducible refine RD.gcons ?_
  | with_reducible refine RD.gnil ?_
  | with_reducible refine RD.bm ?_
  | ((with_reducible refine' RD.bmL ?rdH ?rdK); (case rdH => walk_at "sq"))
  | ((with_reducible refine' RD.newZ ?rdH ?rdK); (case rdH => exact RD.sz _); intro $(Lean.mkIdent `p'):ident $(Lean.mkIdent `H'):ident $(Lean.mkIdent `hp):ident $(Lean.mkIdent `hs):ident $(Lean.mkIdent `hv):ident; (try have $(Lean.mkIdent `hn):ident := hand_ne $(Lean.mkIdent `hp):ident (by walk_at "hk")))
  | with_reducible refine RD.fors ?_
  | with_reducible refine RD.lc ?_
  | with_reducible refine RD.yes ?_
  | with_reducible refine RD.ilist ?_
  | ((with_reducible refine' RD.ilistV ?rdH ?rdK); (case rdH => walk_at "sq"))
  | with_reducible refine RD.itup ?_
  | ((with_reducible refine' RD.itupV ?rdH ?rdK); (case rdH => walk_at "st"))
  | with_reducible refine RD.irng1 ?_
  | with_reducible refine RD.irng2 ?_
  | ((with_reducible refine' RD.irng2V ?rdA ?rdK); (case rdA => first | decide | omega))
  | with_reducible refine RD.ienum ?_
  | ((with_reducible refine' RD.ienumV ?rdH ?rdK); (case rdH => walk_at "sq"))
  | with_reducible refine RD.izip ?_
  | ((with_reducible refine' RD.izipV ?rdH ?rdE ?rdK); (case rdH => walk_at "sq"); (case rdE => walk_at "sq"))
  | with_reducible refine SPD.izipA ?_
  | with_reducible refine RD.istr ?_
  | with_reducible refine RD.istrV ?_
  | ((with_reducible refine' RD.slL ?rdH ?rdK); (case rdH => walk_at "sq"); intro $(Lean.mkIdent `p'):ident $(Lean.mkIdent `H'):ident $(Lean.mkIdent `hp):ident $(Lean.mkIdent `hs):ident $(Lean.mkIdent `hv):ident; (try have $(Lean.mkIdent `hn):ident := hand_ne $(Lean.mkIdent `hp):ident (by walk_at "hk")))
  | ((with_reducible refine' RD.cat ?rdH ?rdE ?rdZ ?rdK); (case rdH => walk_at "hp"); (case rdE => walk_at "hp"); (case rdZ => exact RD.sz _); intro $(Lean.mkIdent `p'):ident $(Lean.mkIdent `H'):ident $(Lean.mkIdent `hp):ident $(Lean.mkIdent `hs):ident $(Lean.mkIdent `hv):ident; (try have $(Lean.mkIdent `hn):ident := hand_ne $(Lean.mkIdent `hp):ident (by walk_at "hk")))
  | ((with_reducible refine' RD.gtup ?rdH ?rdE ?rdK); (case rdH => walk_at "st"); (case rdE => rfl))
  | ((with_reducible refine' RD.app ?rdH ?rdZ ?rdK); (case rdH => walk_at "hp"); (case rdZ => first | assumption | (apply RD.szl; omega)); intro $(Lean.mkIdent `H'):ident $(Lean.mkIdent `hk):ident $(Lean.mkIdent `hv):ident)
  | ((with_reducible refine' RD.all1 ?rdH ?rdK); (case rdH => walk_at "sq"))
  | ((with_reducible refine' RD.any1 ?rdH ?rdK); (case rdH => walk_at "sq"))
  | ((with_reducible refine' SPD.dnew ?rdK); intro $(Lean.mkIdent `p'):ident $(Lean.mkIdent `H'):ident $(Lean.mkIdent `hp):ident $(Lean.mkIdent `hs):ident $(Lean.mkIdent `hv):ident; (try have $(Lean.mkIdent `hn):ident := hand_ne $(Lean.mkIdent `hp):ident (by walk_at "hk")))
  | ((with_reducible refine' SPD.disp1 ?rdK); intro $(Lean.mkIdent `p'):ident $(Lean.mkIdent `H'):ident $(Lean.mkIdent `hp):ident $(Lean.mkIdent `hs):ident $(Lean.mkIdent `hv):ident; (try have $(Lean.mkIdent `hn):ident := hand_ne $(Lean.mkIdent `hp):ident (by walk_at "hk")))
  | ((with_reducible refine' SPD.isSeq ?rdH ?rdE ?rdK); (case rdH => walk_at "hp"); (case rdE => walk_at "kd"))
  | ((with_reducible refine' SPD.isTup ?rdE ?rdK); (case rdE => walk_at "kd"))
  | ((with_reducible refine' SPD.isLst ?rdE ?rdK); (case rdE => walk_at "kd"))
  | ((with_reducible refine' SPD.isBool ?rdE ?rdK); (case rdE => walk_at "kd"))
  | ((with_reducible refine' SPD.isStr ?rdE ?rdK); (case rdE => walk_at "kd"))
  | ((with_reducible refine' SPD.isInt ?rdE ?rdK); (case rdE => walk_at "kd"))
  | dsimp only)
local macro_rules | `(tactic| walk_at "rds") => `(tactic| repeat walk_at "rd")
local macro_rules | `(tactic| walk_at "sm") => `(tactic| first | assumption | exact Same.refl _ | exact RD.sm_tr (by assumption) (by walk_at "sm") | fail "no")
local macro_rules | `(tactic| walk_at "kb") => `(tactic| first | assumption | exact RD.KB.refl | exact RD.kb_tr (by assumption) (by walk_at "kb") | exact RD.kb_trs (by assumption) (by walk_at "kb") | fail "no")
local macro_rules | `(tactic| walk_at "fr") => `(tactic| first | assumption | exact RD.fr_of (by assumption) (by walk_at "sm") | fail "no")
local macro_rules | `(tactic| walk_at "hk") => `(tactic| first | assumption | exact hand_same (by assumption) (by walk_at "hk") | exact hand_kb (by assumption) (by walk_at "fr") (by walk_at "hk") | fail "no")
local macro_rules | `(tactic| walk_at "na") => `(tactic| first | assumption | exact hand_ne (by assumption) (by walk_at "hk") | fail "no")
local macro_rules | `(tactic| walk_at "dqa") => `(tactic| first | exact SPD.DqA.nil | exact SPD.DqA.cons (by walk_at "dq") (by walk_at "dqa") | exact SPD.DqA.app (by walk_at "dqa") (by walk_at "dqa") | fail "no")
local macro_rules | `(tactic| walk_at "dq") => `(tactic| first | assumption | exact SPD.Dq.leaf rfl | exact SPD.dq_kb (by assumption) (by walk_at "kb") | exact SPD.dqTup (by walk_at "hp") (by walk_at "na") (by walk_at "dqa") | exact SPD.dqLst (by walk_at "hp") (by walk_at "na") (by walk_at "dqa") | exact SPD.dqNil (by walk_at "hp") (by walk_at "na") (by first | decide | simp) (by first | decide | simp) | fail "no")

local macro_rules | `(tactic| walk_at "rd") => `(tactic| first
  | with_reducible refine RB.chain ?_
  | with_reducible refine RB.m1 ?_
  | with_reducible refine RB.strE ?_
  | with_reducible refine RB.fld ?_
  | with_reducible refine RB.setF ?_
  | with_reducible refine RB.ss ?_
  | with_reducible refine RB.rev ?_
  | with_reducible refine RB.make ?_
  | with_reducible refine RB.makeS ?_
  | with_reducible refine RB.mkO ?_
  | with_reducible refine NR.ienumT ?_
  | with_reducible refine RB.inS ?_
  | with_reducible refine RB.bmS ?_
  | with_reducible refine RB.callS ?_
  | with_reducible refine RB.sw3 ?_
  | with_reducible refine RB.par3 ?_
  | with_reducible refine RB.par3V ?_
  | ((with_reducible refine' RB.slS ?rdH ?rdK); (case rdH => walk_at "sz"))
  | with_reducible refine RB.xf ?_
  | ((with_reducible refine' RB.xfV ?rdH ?rdE ?rdK); (case rdH => walk_at "hp"); (case rdE => rfl))
  | ((with_reducible refine' NR.ienumTV ?rdH ?rdK); (case rdH => walk_at "st"))
  | ((with_reducible refine' RB.lenL ?rdH ?rdK); (case rdH => walk_at "sq"))
  | ((with_reducible refine' RB.lenT ?rdH ?rdK); (case rdH => walk_at "st"))
  | ((with_reducible refine' RB.lenS ?rdH ?rdK); (case rdH => walk_at "sz"))
  | ((with_reducible refine' RD.lenS ?rdH ?rdK); (case rdH => walk_at "sz"))
  | ((with_reducible refine' RB.slT ?rdH ?rdK); (case rdH => walk_at "hp"); intro $(Lean.mkIdent `p'):ident $(Lean.mkIdent `H'):ident $(Lean.mkIdent `hs):ident $(Lean.mkIdent `hv):ident $(Lean.mkIdent `hp):ident; (try have $(Lean.mkIdent `hn):ident := two_ne $(Lean.mkIdent `hp):ident (by walk_at "na") (by walk_at "hk")))
  | ((with_reducible refine' RB.revV ?rdH ?rdK); (case rdH => walk_at "st"); intro $(Lean.mkIdent `p'):ident $(Lean.mkIdent `H'):ident $(Lean.mkIdent `hp):ident $(Lean.mkIdent `hs):ident $(Lean.mkIdent `hv):ident; (try have $(Lean.mkIdent `hn):ident := hand_ne $(Lean.mkIdent `hp):ident (by walk_at "hk")))
  | ((with_reducible refine' RB.listS ?rdH ?rdK); (case rdH => walk_at "sz"); intro $(Lean.mkIdent `p'):ident $(Lean.mkIdent `H'):ident $(Lean.mkIdent `hp):ident $(Lean.mkIdent `hs):ident $(Lean.mkIdent `hv):ident; (try have $(Lean.mkIdent `hn):ident := hand_ne $(Lean.mkIdent `hp):ident (by walk_at "hk")))
  | ((with_reducible refine' RB.listO ?rdH ?rdK); (case rdH => first | exact Or.inl (by walk_at "sq") | exact Or.inr (by walk_at "st")); intro $(Lean.mkIdent `p'):ident $(Lean.mkIdent `H'):ident $(Lean.mkIdent `hp):ident $(Lean.mkIdent `hs):ident $(Lean.mkIdent `hv):ident; (try have $(Lean.mkIdent `hn):ident := hand_ne $(Lean.mkIdent `hp):ident (by walk_at "hk")))
  | ((with_reducible refine' RB.tupL ?rdH ?rdK); (case rdH => walk_at "sq"); intro $(Lean.mkIdent `p'):ident $(Lean.mkIdent `H'):ident $(Lean.mkIdent `hp):ident $(Lean.mkIdent `hs):ident $(Lean.mkIdent `hv):ident; (try have $(Lean.mkIdent `hn):ident := hand_ne $(Lean.mkIdent `hp):ident (by walk_at "hk")))
  | ((with_reducible refine' RB.catT ?rdH ?rdE ?rdZ ?rdK); (case rdH => walk_at "hp"); (case rdE => walk_at "hp"); (case rdZ => exact RB.LN.sum (by walk_at "ln") (by walk_at "ln") rfl); intro $(Lean.mkIdent `p'):ident $(Lean.mkIdent `H'):ident $(Lean.mkIdent `hs):ident $(Lean.mkIdent `hv):ident $(Lean.mkIdent `hp):ident; (try have $(Lean.mkIdent `hn):ident := three_ne $(Lean.mkIdent `hp):ident (by walk_at "na") (by walk_at "na") (by walk_at "hk")))
  | fail "no")
local macro_rules | `(tactic| walk_at "ln") => `(tactic| first | with_reducible assumption | exact RB.LN.cut (by walk_at "ln") | exact RB.LN.app (by walk_at "ln") (by walk_at "ln") | exact RB.LN.rev (by walk_at "ln") | exact RB.LN.rep (by walk_at "ln") | exact RB.LN.lit rfl | fail "no")
local macro_rules | `(tactic| walk_at "sz") => `(tactic| first | assumption | exact RD.sz _ | fail "no")

local macro_rules | `(tactic| walk_at "dk") => `(tactic| first | exact FR.rd_of (by walk_at "hp") | exact Or.inr ⟨_, by walk_at "hp"⟩ | fail "no")
local macro_rules | `(tactic| walk_at "rd") => `(tactic| first
  | with_reducible refine FR.dget ?_
  | with_reducible refine FR.din ?_
  | with_reducible refine FR.dnotin ?_
  | with_reducible refine FR.dc ?_
  | with_reducible refine FR.ikeys ?_
  | with_reducible refine FR.ivals ?_
  | with_reducible refine FR.bm0 ?_
  | ((with_reducible refine' FR.dinS ?rdH ?rdK); (case rdH => walk_at "dk"))
  | ((with_reducible refine' FR.keysV ?rdH ?rdK); (case rdH => walk_at "hp"))
  | ((with_reducible refine' FR.valsV ?rdH ?rdK); (case rdH => walk_at "hp"))
  | ((with_reducible refine' FR.bmD ?rdH ?rdK); (case rdH => walk_at "hp"))
  | with_reducible refine FR.ckw ?_
  | with_reducible refine FR.dget2 ?_
  | ((with_reducible refine' FR.isdV ?rdH ?rdK); (case rdH => walk_at "dk"))
  | ((with_reducible refine' FR.dg2S ?rdH ?rdK); (case rdH => walk_at "dk"))
  | ((with_reducible refine' FR.lenD ?rdH ?rdK); (case rdH => walk_at "hp"))
  | fail "no")

local macro_rules | `(tactic| walk_at "rd") => `(tactic| first
  | with_reducible refine BH.iitems ?_
  | with_reducible refine BH.revl ?_
  | ((with_reducible refine' BH.dg2I ?rdH ?rdK); (case rdH => walk_at "dk"))
  | ((with_reducible refine' BH.catN ?rdH ?rdE ?rdZ ?rdK); (case rdH => walk_at "hp"); (case rdE => walk_at "hp"); (case rdZ => assumption); intro $(Lean.mkIdent `p'):ident $(Lean.mkIdent `H'):ident $(Lean.mkIdent `hs):ident $(Lean.mkIdent `hv):ident)
  | fail "no")

theorem dq_pieces {a t : Addr} {H : Hp} {zs : List Str} (g : Good zs) (ht : H t = some (.tup (zs.map V.str))) (nt : t ≠ a) : SPD.Dq a H 1 (.ref t) :=
  RB.dqTupN ht nt (RB.dqa_strs fun z hz => Nat.le_trans (piece_size (g.piece z hz)).2 (by decide)) (show RB.LN 12 _ from by
    show (zs.map V.str).length ≤ 12
    rw [List.length_map]
    exact g.few) rfl
theorem cutV_len (xs : List V) (lo hi : Option Int) : (cutV xs lo hi).length ≤ xs.length := by
  unfold cutV
  rw [List.length_take, List.length_drop]
  omega

/-! ### needless pieces -/
open Classical in
noncomputable def idD (zs : List Str) (y : Str) : Bool := decide (IL.Idle (tls zs) (tl y))
open Classical in
theorem idD_iff {zs : List Str} {y : Str} : idD zs y = true ↔ IL.Idle (tls zs) (tl y) := by
  unfold idD
  exact decide_eq_true_iff
theorem eq_idD {zs : List Str} {y : Str} {r : Bool} (h : r = true ↔ IL.Idle (tls zs) (tl y)) : r = idD zs y := Bool.eq_iff_iff.mpr (h.trans idD_iff.symm)
noncomputable def needD (zs : List Str) (i : Nat) : Bool := decide (1 < zs.length) && idD (zs.eraseIdx i) (zs.getD i "")
theorem erase_len {zs : List Str} {i : Nat} (hi : i < zs.length) : (zs.eraseIdx i).length = zs.length - 1 := List.length_eraseIdx_of_lt hi
theorem good_erase {zs : List Str} (g : Good zs) (h : 1 < zs.length) {i : Nat} (hi : i < zs.length) : Good (zs.eraseIdx i) :=
  ⟨by rw [erase_len hi]; omega, by rw [erase_len hi]; have := g.few; omega, fun z hz => g.piece z (List.mem_of_mem_eraseIdx hz), g.once.sublist (List.eraseIdx_sublist zs i)⟩
theorem cut_erase {zs : List Str} {i : Nat} : cutV (zs.map V.str) none (some (i : Int)) ++ cutV (zs.map V.str) (some ((i : Int) + 1)) none = (zs.eraseIdx i).map V.str := by
  have e1 : cutV (zs.map V.str) none (some (i : Int)) = (zs.take i).map V.str := by
    unfold cutV
    rw [HT.sIx_none, HT.sIx_nat, List.drop_zero, Nat.sub_zero, List.map_take]
    rcases Nat.le_total i (zs.map V.str).length with h | h
    · rw [Nat.min_eq_left h]
    · rw [Nat.min_eq_right h, List.take_of_length_le (Nat.le_refl _), List.take_of_length_le h]
  have e2 : cutV (zs.map V.str) (some ((i : Int) + 1)) none = (zs.drop (i + 1)).map V.str := by
    rw [show ((i : Int) + 1) = ((i + 1 : Nat) : Int) by omega]
    unfold cutV
    rw [HT.sIx_none, HT.sIx_nat, List.map_drop]
    rcases Nat.le_total (i + 1) (zs.map V.str).length with h | h
    · rw [Nat.min_eq_left h]
      exact List.take_of_length_le (by rw [List.length_drop]; omega)
    · rw [Nat.min_eq_right h, List.drop_of_length_le (Nat.le_refl _), List.drop_of_length_le h, List.take_nil]
  rw [e1, e2, List.eraseIdx_eq_take_drop_succ, List.map_append]
theorem getD_at {zs : List Str} {i : Nat} (hi : i < zs.length) : zs[i]? = some (zs.getD i "") := by
  rw [List.getD_eq_getElem?_getD, List.getElem?_eq_getElem hi]
  rfl
def spIsNeedless (C : Addr) : Sp := fun vs H Q _ => ∃ (b t : Addr) (zs : List Str) (i : Nat), vs = [.ref b, .int (i : Int)] ∧ BookAt H C b t ∧ H t = some (.tup (zs.map V.str)) ∧ Good zs ∧ i < zs.length ∧ ∀ H', Same H H' → Q (.bl (needD zs i)) H'
section
variable {P : Program} {w : World} {K : PySem.W.Frag} {mg : Str → Option Value} {base : Heap}
theorem ok_is_needless (T : Txt P K mg) : FnOk P w K mg base CX0 6 T.a_is_needless T.fd_is_needless ["book", "number"] (spIsNeedless T.C_Book) := by
  have nd := sc_is_needless.nd
  have G_raw_is_idle : FnOk P w K mg base CX0 5 T.a_raw_is_idle T.fd_raw_is_idle ["book", "log"] (spRawIdle T.C_Book) := (ok_raw_is_idle T).mono (by decide)
  have G_Book_init : FnOk P w K mg base (L2.CX P w) 4 T.a_Book_init T.fd_Book_init ["self", "pieces"] (spBook K T.C_Book T.C_BadBook) := (ok_Book_init T).mono (by decide)
  refine T.F_is_needless.ok sc_is_needless (fun vs H Q E h => ?_) (fun cdv A outer s H vs Q E hr h => ?_)
  · obtain ⟨b, t, zs, i, rfl, _⟩ := h
    rfl
  · obtain ⟨b, t, zs, i, rfl, ⟨dx, hb⟩, ht, g, hi, q⟩ := h
    refine ⟨_, (pss_cons (ps_set (i := 2) nd rfl (by first | exact Or.inl rfl | exact Or.inr rfl) (pe_op op_catA (pe_slice sl_tupA (pe_fld (pv 0) rfl) po_none (po_some (pv 1))) (pe_slice sl_tupA (pe_fld (pv 0) rfl) (po_some (pe_op op_add (pv 1) pe_int)) po_none)))
  (pss_one (ps_ret (pe_and (pe_cmpR op_gt (pe_callB call_len_seq (by rfl) T.m_len PySem.boot_len (pa_cons (pv 2) pa_nil)) pe_int (nomark _)) (pe_one (pe_call G_raw_is_idle hr (by rfl) T.g_raw_is_idle T.F_raw_is_idle.kp T.b_raw_is_idle .nil pass0 (pa_cons (pe_make T.M_Book G_Book_init hr (by rfl) T.g_Book T.b_Book_init .nil NR.passN (pa_cons (pv 2) pa_nil)) (pa_cons (pe_ix ix_tup (pe_fld (pv 0) rfl) (pv 1) (fun _ _ => rfl)) pa_nil)))))))), ?_⟩
    have hlm : (zs.map V.str).length = zs.length := List.length_map ..
    have g12 := g.few
    walk_at "rds"
    refine RB.fldV hb T.cl_Book T.no_Book_pieces rfl ?_
    walk_at "rds"
    have h1 := hv
    have s1 := hs
    clear hv hs
    refine RB.fldV (s1 _ _ hb) T.cl_Book T.no_Book_pieces rfl ?_
    iterate 7 (walk_at "rd")
    refine RB.slT (s1 _ _ ht) fun p2 H2 s2 h2 _ => ?_
    refine RB.catT (s2 _ _ h1) h2 (RD.szo (by have := cutV_len (zs.map V.str) none (some (i : Int)); have := cutV_len (zs.map V.str) (some ((i : Int) + 1)) none; omega)) fun p3 H3 s3 h3 _ => ?_
    rw [cut_erase] at h3
    have s03 := (s1.trans s2).trans s3
    have hb3 := s03 _ _ hb
    have ht3 := s03 _ _ ht
    have hle : ((zs.eraseIdx i).map V.str).length = zs.length - 1 := by rw [List.length_map, erase_len hi]
    clear s1 s2 s3 h1 h2
    walk_at "rds"
    refine RD.ite_d (fun h0 => ?_) (fun h0 => ?_)
    · have h1 : 1 < zs.length := by
        have h0 : (0 : Int) < (((zs.eraseIdx i).map V.str).length : Int) := h0
        omega
      have g2 := good_erase g h1 hi
      walk_at "rds"
      refine RB.made fun b2 H4 dx2 hb2 s4 hb4 => ?_
      have nb : p3 ≠ b2 := fun e => by
        have := s4 _ _ h3
        rw [e, hb4] at this
        cases this
      refine ⟨b2, b2, dx2, 1, .ref p3, rfl, hb4, dq_pieces g2 (s4 _ _ h3) nb, fun H5 _ k5 h5 => ⟨rfl, ?_⟩, fun r d H' hr ne _ _ _ => absurd (hr.one (DueR.of (s4 _ _ h3) g2)) ne⟩
      have s5 := same_of_kb s4 hb2 k5
      have hb5 := s5 _ _ hb3
      have ht5 := s5 _ _ ht3
      have h35 := s5 _ _ h3
      walk_at "rds"
      refine RB.fldV hb5 T.cl_Book T.no_Book_pieces rfl ?_
      walk_at "rds"
      refine RD.ixT (.inl (.inl ht5)) (at_nat (n := i) (show (zs.map V.str)[i]? = some (.str (zs.getD i "")) by rw [List.getElem?_map, getD_at hi]; rfl)) ?_
      have hy8 := (piece_size (g.piece (zs.getD i "") (List.mem_of_getElem? (getD_at hi)))).2
      walk_at "rds"
      refine ⟨b2, p3, zs.eraseIdx i, zs.getD i "", rfl, ⟨dx2, h5⟩, h35, g2, by omega, fun r H6 hr6 s6 => ?_⟩
      have e : r = needD zs i := by
        rw [eq_idD hr6]
        unfold needD
        rw [decide_eq_true h1, Bool.true_and]
      rw [e]
      exact q _ (s03.trans (s5.trans s6))
    · have h1 : ¬ 1 < zs.length := fun h => h0 (by show (0 : Int) < (((zs.eraseIdx i).map V.str).length : Int); omega)
      have e : false = needD zs i := by
        unfold needD
        rw [decide_eq_false h1, Bool.false_and]
      rw [e]
      exact q _ s03
end


end K27

namespace K27
open PySem PySem.Spec PyProof.Rows L2
local macro_rules | `(tactic| walk_at "kd") => `(tactic| first | assumption | exact SPD.KdOf.int _ | exact SPD.KdOf.str _ | exact SPD.KdOf.bl _ | exact SPD.KdOf.non | exact SPD.KdOf.same (by assumption) (by walk_at "kd") | exact SPD.KdOf.tup (by walk_at "hp") | exact SPD.KdOf.lst (by walk_at "hp") | fail "no")
local macro_rules | `(tactic| walk_at "ne") => `(tactic| first | assumption | exact Ne.symm (by assumption) | fail "no")
local macro_rules | `(tactic| walk_at "hp") => `(tactic| first | assumption | exact RD.at_same (by assumption) (by walk_at "hp") | exact RD.at_kb (by assumption) (by walk_at "ne") (by walk_at "hp") | fail "no")
local macro_rules | `(tactic| walk_at "sq") => `(tactic| first | assumption | exact Or.inl (Or.inl (by walk_at "hp")) | exact Same.seq (by assumption) (by walk_at "sq") | exact RD.KB.seq (by assumption) (by walk_at "ne") (by walk_at "sq") | fail "no")
local macro_rules | `(tactic| walk_at "st") => `(tactic| first | assumption | exact Or.inl (Or.inl (by walk_at "hp")) | exact RD.Same.tup (by assumption) (by walk_at "st") | exact RD.KB.tup (by assumption) (by walk_at "ne") (by walk_at "st") | fail "no")
local macro_rules | `(tactic| walk_at "rd") => `(tactic| first
  | with_reducible refine RD.c ?_
  | ((with_reducible refine' RD.var ?rdE ?rdK); (case rdE => exact rfl))
  | with_reducible refine RD.op ?_
  | with_reducible refine RD.un ?_
  | with_reducible refine RD.nil ?_
  | with_reducible refine RD.cons ?_
  | with_reducible refine RD.cb ?_
  | with_reducible refine RD.call ?_
  | with_reducible refine RD.test ?_
  | with_reducible refine RD.tb' ?_
  | with_reducible refine RD.bl ?_
  | with_reducible refine RD.and' ?_
  | with_reducible refine RD.or' ?_
  | with_reducible refine RD.not' ?_
  | with_reducible refine RD.andV ?_
  | with_reducible refine RD.orV ?_
  | with_reducible refine RD.notV ?_
  | with_reducible refine RD.ife ?_
  | with_reducible refine RD.sl ?_
  | with_reducible refine RD.part ?_
  | with_reducible refine RD.noPart ?_
  | with_reducible refine RD.partI ?_
  | with_reducible refine RD.rd0 ?_
  | with_reducible refine RD.rdU ?_
  | ((with_reducible refine' RD.rdEq ?rdE ?rdK); (case rdE => rfl))
  | ((with_reducible refine' RD.rdNe ?rdE ?rdK); (case rdE => rfl))
  | ((with_reducible refine' RD.ixL ?rdH ?rdE ?rdK); (case rdH => walk_at "sq"); (case rdE => first | rfl | assumption))
  | ((with_reducible refine' RD.rdI ?rdC ?rdK); (case rdC => first | assumption | (show (0 : Int) < _; first | decide | omega) | exact ⟨by decide, by decide⟩ | exact ⟨by assumption, by assumption⟩ | exact .inr ⟨by decide, by decide⟩ | exact .inl ⟨by decide, by decide⟩ | exact ⟨by decide, by decide, by decide⟩ | exact .inl ⟨by omega, by omega⟩))
  | ((with_reducible refine' RD.setL ?rdH ?rdE ?rdK); (case rdH => walk_at "hp"); (case rdE => rfl); intro $(Lean.mkIdent `H'):ident $(Lean.mkIdent `hk):ident $(Lean.mkIdent `hv):ident)
  | ((with_reducible refine' RD.irng1V ?rdA ?rdB ?rdK); (case rdA => first | decide | omega); (case rdB => first | decide | omega))
  | with_reducible refine RD.int1 ?_
  | with_reducible refine RD.abs1 ?_
  | ((with_reducible refine' RD.len ?rdH ?rdK); (case rdH => first | exact Or.inl (by walk_at "sq") | exact Or.inr (by walk_at "st")))
  | with_reducible refine RD.tup ?_
  | with_reducible refine RD.lst ?_
  | with_reducible refine RD.ite1 ?_
  | with_reducible refine RD.ite0 ?_
  | with_reducible refine RD.ite1n ?_
  | with_reducible refine RD.ite0n ?_
  | with_reducible refine RD.seq ?_
  | with_reducible refine RD.asg ?_
  | with_reducible refine RD.name ?_
  | with_reducible refine RD.ret ?_
  | with_reducible refine RD.drop ?_
  | with_reducible refine RD.next ?_
  | with_reducible refine RD.ifs ?_
  | with_reducible refine RD.par ?_
  | with_reducible refine RD.par2 ?_
  | with_reducible refine RD.sub ?_
  | with_reducible refine RD.gcons ?_
  | with_reducible refine RD.gnil ?_
  | with_reducible refine RD.bm ?_
  | ((with_reducible refine' RD.bmL ?rdH ?rdK); (case rdH => walk_at "sq"))
  | ((with_reducible refine' RD.newZ ?rdH ?rdK); (case rdH => exact RD.sz _); intro $(Lean.mkIdent `p'):ident $(Lean.mkIdent `H'):ident $(Lean.mkIdent `hp):ident $(Lean.mkIdent `hs):ident $(Lean.mkIdent `hv):ident; (try have $(Lean.mkIdent `hn):ident := hand_ne $(Lean.mkIdent `hp):ident (by walk_at "hk")))
  | with_reducible refine RD.fors ?_
  | with_reducible refine RD.lc ?_
  | with_reducible refine RD.yes ?_
  | with_reducible refine RD.ilist ?_
  | ((with_reducible refine' RD.ilistV ?rdH ?rdK); (case rdH => walk_at "sq"))
  | with_reducible refine RD.itup ?_
  | ((with_reducible refine' RD.itupV ?rdH ?rdK); (case rdH => walk_at "st"))
  | with_reducible refine RD.irng1 ?_
  | with_reducible refine RD.irng2 ?_
  | ((with_reducible refine' RD.irng2V ?rdA ?rdK); (case rdA => first | decide | omega))
  | with_reducible refine RD.ienum ?_
  | ((with_reducible refine' RD.ienumV ?rdH ?rdK); (case rdH => walk_at "sq"))
  | with_reducible refine RD.izip ?_
  | ((with_reducible refine' RD.izipV ?rdH ?rdE ?rdK); (case rdH => walk_at "sq"); (case rdE => walk_at "sq"))
  | with_reducible refine SPD.izipA ?_
  | with_reducible refine RD.istr ?_
  | with_reducible refine RD.istrV ?_
  | ((with_reducible refine' RD.slL ?rdH ?rdK); (case rdH => walk_at "sq"); intro $(Lean.mkIdent `p'):ident $(Lean.mkIdent `H'):ident $(Lean.mkIdent `hp):ident $(Lean.mkIdent `hs):ident $(Lean.mkIdent `hv):ident; (try have $(Lean.mkIdent `hn):ident := hand_ne $(Lean.mkIdent `hp):ident (by walk_at "hk")))
  | ((with_reducible refine' RD.cat ?rdH ?rdE ?rdZ ?rdK); (case rdH => walk_at "hp"); (case rdE => walk_at "hp"); (case rdZ => exact RD.sz _); intro $(Lean.mkIdent `p'):ident $(Lean.mkIdent `H'):ident $(Lean.mkIdent `hp):ident $(Lean.mkIdent `hs):ident $(Lean.mkIdent `hv):ident; (try have $(Lean.mkIdent `hn):ident := hand_ne $(Lean.mkIdent `hp):ident (by walk_at "hk")))
  | ((with_reducible refine' RD.gtup ?rdH ?rdE ?rdK); (case rdH => walk_at "st"); (case rdE => rfl))
  | ((with_reducible refine' RD.app ?rdH ?rdZ ?rdK); (case rdH => walk_at "hp"); (case rdZ => first | assumption | (apply RD.szl; omega)); intro $(Lean.mkIdent `H'):ident $(Lean.mkIdent `hk):ident $(Lean.mkIdent `hv):ident)
  | ((with_reducible refine' RD.all1 ?rdH ?rdK); (case rdH => walk_at "sq"))
  | ((with_reducible refine' RD.any1 ?rdH ?rdK); (case rdH => walk_at "sq"))
  | ((with_reducible refine' SPD.dnew ?rdK); intro $(Lean.mkIdent `p'):ident $(Lean.mkIdent `H'):ident $(Lean.mkIdent `hp):ident $(Lean.mkIdent `hs):ident $(Lean.mkIdent `hv):ident; (try have $(Lean.mkIdent `hn):ident := hand_ne $(Lean.mkIdent `hp):ident (by walk_at "hk")))
  | ((with_reducible refine' SPD.disp1 ?rdK); intro $(Lean.mkIdent `p'):ident $(Lean.mkIdent `H'):ident $(Lean.mkIdent `hp):ident $(Lean.mkIdent `hs):ident $(Lean.mkIdent `hv):ident; (try have $(Lean.mkIdent `hn):ident := hand_ne $(Lean.mkIdent `hp):ident (by walk_at "hk")))
  | ((with_reducible refine' SPD.isSeq ?rdH ?rdE ?rdK); (case rdH => walk_at "hp"); (case rdE => walk_at "kd"))
  | ((with_reducible refine' SPD.isTup ?rdE ?rdK); (case rdE => walk_at "kd"))
  | ((with_reducible refine' SPD.isLst ?rdE ?rdK); (case rdE => walk_at "kd"))
  | ((with_reducible refine' SPD.isBool ?rdE ?rdK); (case rdE => walk_at "kd"))
  | ((with_reducible refine' SPD.isStr ?rdE ?rdK); (case rdE => walk_at "kd"))
  | ((with_reducible refine' SPD.isInt ?rdE ?rdK); (case rdE => walk_at "kd"))
  | dsimp only)
local macro_rules | `(tactic| walk_at "rds") => `(tactic| repeat walk_at "rd")
local macro_rules | `(tactic| walk_at "sm") => `(tactic| first | assumption | exact Same.refl _ | exact RD.sm_tr (by assumption) (by walk_at "sm") | fail "no")
local macro_rules | `(tactic| walk_at "kb") => `(tactic| first | assumption | exact RD.KB.refl | exact RD.kb_tr (by assumption) (by walk_at "kb") | exact RD.kb_trs (by assumption) (by walk_at "kb") | fail "no")
local macro_rules | `(tactic| walk_at "fr") => `(tactic| first | assumption | exact RD.fr_of (by assumption) (by walk_at "sm") | fail "no")
local macro_rules | `(tactic| walk_at "hk") => `(tactic| first | assumption | exact hand_same (by assumption) (by walk_at "hk") | exact hand_kb (by assumption) (by walk_at "fr") (by walk_at "hk") | fail "no")
local macro_rules | `(tactic| walk_at "na") => `(tactic| first | assumption | exact hand_ne (by assumption) (by walk_at "hk") | fail "no")
local macro_rules | `(tactic| walk_at "dqa") => `(tactic| first | exact SPD.DqA.nil | exact SPD.DqA.cons (by walk_at "dq") (by walk_at "dqa") | exact SPD.DqA.app (by walk_at "dqa") (by walk_at "dqa") | fail "no")
local macro_rules | `(tactic| walk_at "dq") => `(tactic| first | assumption | exact SPD.Dq.leaf rfl | exact SPD.dq_kb (by assumption) (by walk_at "kb") | exact SPD.dqTup (by walk_at "hp") (by walk_at "na") (by walk_at "dqa") | exact SPD.dqLst (by walk_at "hp") (by walk_at "na") (by walk_at "dqa") | exact SPD.dqNil (by walk_at "hp") (by walk_at "na") (by first | decide | simp) (by first | decide | simp) | fail "no")

local macro_rules | `(tactic| walk_at "rd") => `(tactic| first
  | with_reducible refine RB.chain ?_
  | with_reducible refine RB.m1 ?_
  | with_reducible refine RB.strE ?_
  | with_reducible refine RB.fld ?_
  | with_reducible refine RB.setF ?_
  | with_reducible refine RB.ss ?_
  | with_reducible refine RB.rev ?_
  | with_reducible refine RB.make ?_
  | with_reducible refine RB.makeS ?_
  | with_reducible refine RB.mkO ?_
  | with_reducible refine NR.ienumT ?_
  | with_reducible refine RB.inS ?_
  | with_reducible refine RB.bmS ?_
  | with_reducible refine RB.callS ?_
  | with_reducible refine RB.sw3 ?_
  | with_reducible refine RB.par3 ?_
  | with_reducible refine RB.par3V ?_
  | ((with_reducible refine' RB.slS ?rdH ?rdK); (case rdH => walk_at "sz"))
  | with_reducible refine RB.xf ?_
  | ((with_reducible refine' RB.xfV ?rdH ?rdE ?rdK); (case rdH => walk_at "hp"); (case rdE => rfl))
  | ((with_reducible refine' NR.ienumTV ?rdH ?rdK); (case rdH => walk_at "st"))
  | ((with_reducible refine' RB.lenL ?rdH ?rdK); (case rdH => walk_at "sq"))
  | ((with_reducible refine' RB.lenT ?rdH ?rdK); (case rdH => walk_at "st"))
  | ((with_reducible refine' RB.lenS ?rdH ?rdK); (case rdH => walk_at "sz"))
  | ((with_reducible refine' RD.lenS ?rdH ?rdK); (case rdH => walk_at "sz"))
  | ((with_reducible refine' RB.slT ?rdH ?rdK); (case rdH => walk_at "hp"); intro $(Lean.mkIdent `p'):ident $(Lean.mkIdent `H'):ident $(Lean.mkIdent `hs):ident $(Lean.mkIdent `hv):ident $(Lean.mkIdent `hp):ident; (try have $(Lean.mkIdent `hn):ident := two_ne $(Lean.mkIdent `hp):ident (by walk_at "na") (by walk_at "hk")))
  | ((with_reducible refine' RB.revV ?rdH ?rdK); (case rdH => walk_at "st"); intro $(Lean.mkIdent `p'):ident $(Lean.mkIdent `H'):ident $(Lean.mkIdent `hp):ident $(Lean.mkIdent `hs):ident $(Lean.mkIdent `hv):ident; (try have $(Lean.mkIdent `hn):ident := hand_ne $(Lean.mkIdent `hp):ident (by walk_at "hk")))
  | ((with_reducible refine' RB.listS ?rdH ?rdK); (case rdH => walk_at "sz"); intro $(Lean.mkIdent `p'):ident $(Lean.mkIdent `H'):ident $(Lean.mkIdent `hp):ident $(Lean.mkIdent `hs):ident $(Lean.mkIdent `hv):ident; (try have $(Lean.mkIdent `hn):ident := hand_ne $(Lean.mkIdent `hp):ident (by walk_at "hk")))
  | ((with_reducible refine' RB.listO ?rdH ?rdK); (case rdH => first | exact Or.inl (by walk_at "sq") | exact Or.inr (by walk_at "st")); intro $(Lean.mkIdent `p'):ident $(Lean.mkIdent `H'):ident $(Lean.mkIdent `hp):ident $(Lean.mkIdent `hs):ident $(Lean.mkIdent `hv):ident; (try have $(Lean.mkIdent `hn):ident := hand_ne $(Lean.mkIdent `hp):ident (by walk_at "hk")))
  | ((with_reducible refine' RB.tupL ?rdH ?rdK); (case rdH => walk_at "sq"); intro $(Lean.mkIdent `p'):ident $(Lean.mkIdent `H'):ident $(Lean.mkIdent `hp):ident $(Lean.mkIdent `hs):ident $(Lean.mkIdent `hv):ident; (try have $(Lean.mkIdent `hn):ident := hand_ne $(Lean.mkIdent `hp):ident (by walk_at "hk")))
  | ((with_reducible refine' RB.catT ?rdH ?rdE ?rdZ ?rdK); (case rdH => walk_at "hp"); (case rdE => walk_at "hp"); (case rdZ => exact RB.LN.sum (by walk_at "ln") (by walk_at "ln") rfl); intro $(Lean.mkIdent `p'):ident $(Lean.mkIdent `H'):ident $(Lean.mkIdent `hs):ident $(Lean.mkIdent `hv):ident $(Lean.mkIdent `hp):ident; (try have $(Lean.mkIdent `hn):ident := three_ne $(Lean.mkIdent `hp):ident (by walk_at "na") (by walk_at "na") (by walk_at "hk")))
  | fail "no")
local macro_rules | `(tactic| walk_at "ln") => `(tactic| first | with_reducible assumption | exact RB.LN.cut (by walk_at "ln") | exact RB.LN.app (by walk_at "ln") (by walk_at "ln") | exact RB.LN.rev (by walk_at "ln") | exact RB.LN.rep (by walk_at "ln") | exact RB.LN.lit rfl | fail "no")
local macro_rules | `(tactic| walk_at "sz") => `(tactic| first | assumption | exact RD.sz _ | fail "no")

local macro_rules | `(tactic| walk_at "dk") => `(tactic| first | exact FR.rd_of (by walk_at "hp") | exact Or.inr ⟨_, by walk_at "hp"⟩ | fail "no")
local macro_rules | `(tactic| walk_at "rd") => `(tactic| first
  | with_reducible refine FR.dget ?_
  | with_reducible refine FR.din ?_
  | with_reducible refine FR.dnotin ?_
  | with_reducible refine FR.dc ?_
  | with_reducible refine FR.ikeys ?_
  | with_reducible refine FR.ivals ?_
  | with_reducible refine FR.bm0 ?_
  | ((with_reducible refine' FR.dinS ?rdH ?rdK); (case rdH => walk_at "dk"))
  | ((with_reducible refine' FR.keysV ?rdH ?rdK); (case rdH => walk_at "hp"))
  | ((with_reducible refine' FR.valsV ?rdH ?rdK); (case rdH => walk_at "hp"))
  | ((with_reducible refine' FR.bmD ?rdH ?rdK); (case rdH => walk_at "hp"))
  | with_reducible refine FR.ckw ?_
  | with_reducible refine FR.dget2 ?_
  | ((with_reducible refine' FR.isdV ?rdH ?rdK); (case rdH => walk_at "dk"))
  | ((with_reducible refine' FR.dg2S ?rdH ?rdK); (case rdH => walk_at "dk"))
  | ((with_reducible refine' FR.lenD ?rdH ?rdK); (case rdH => walk_at "hp"))
  | fail "no")

local macro_rules | `(tactic| walk_at "rd") => `(tactic| first
  | with_reducible refine BH.iitems ?_
  | with_reducible refine BH.revl ?_
  | ((with_reducible refine' BH.dg2I ?rdH ?rdK); (case rdH => walk_at "dk"))
  | ((with_reducible refine' BH.catN ?rdH ?rdE ?rdZ ?rdK); (case rdH => walk_at "hp"); (case rdE => walk_at "hp"); (case rdZ => assumption); intro $(Lean.mkIdent `p'):ident $(Lean.mkIdent `H'):ident $(Lean.mkIdent `hs):ident $(Lean.mkIdent `hv):ident)
  | fail "no")

/-! ### the lot of the needless ones, the base, the parting log -/
theorem tl_inj {a b : Str} (h : tl a = tl b) : a = b := by
  cases a with
  | mk x =>
    cases b with
    | mk y =>
      have h : x.toList = y.toList := h
      rw [Array.toList_inj.mp h]
theorem tls_mem {zs : List Str} {w : List Nat} : w ∈ tls zs ↔ ∃ y, y ∈ zs ∧ tl y = w := List.mem_map
theorem need_iff {zs : List Str} (g : Good zs) {i : Nat} (hi : i < zs.length) : needD zs i = true ↔ BAS.Need (tls zs) (tl (zs.getD i "")) := by
  have hy := getD_at hi
  have hmem : ∀ w, w ∈ tls (zs.eraseIdx i) ↔ w ∈ (tls zs).filter fun p => decide (p ≠ tl (zs.getD i "")) := fun w => by
    rw [List.mem_filter, tls_mem, tls_mem]
    constructor
    · rintro ⟨y, h, rfl⟩
      obtain ⟨j, hj, hjy⟩ := List.mem_eraseIdx_iff_getElem?.mp h
      refine ⟨⟨y, List.mem_of_getElem? hjy, rfl⟩, decide_eq_true fun e => hj ?_⟩
      have e := tl_inj e
      rw [e] at hjy
      exact (List.getElem?_inj (List.getElem?_eq_some_iff.mp hjy).1 g.once).mp (hjy.trans hy.symm)
    · rintro ⟨⟨y, h, rfl⟩, hne⟩
      obtain ⟨j, hjy⟩ := List.mem_iff_getElem?.mp h
      refine ⟨y, List.mem_eraseIdx_iff_getElem?.mpr ⟨j, fun e => of_decide_eq_true hne ?_, hjy⟩, rfl⟩
      rw [e, hy] at hjy
      rw [Option.some.inj hjy]
  have hid : IL.Idle (tls (zs.eraseIdx i)) (tl (zs.getD i "")) ↔ BAS.Need (tls zs) (tl (zs.getD i "")) := ⟨BAS.mono fun q hq => (hmem q).mp hq, BAS.mono fun q hq => (hmem q).mpr hq⟩
  unfold needD
  rw [Bool.and_eq_true, idD_iff, hid, decide_eq_true_iff]
  refine ⟨fun h => h.2, fun h => ⟨?_, h⟩⟩
  rcases Nat.lt_or_ge 1 zs.length with h1 | h1
  · exact h1
  · exfalso
    rw [← hid] at h
    have e : zs.eraseIdx i = [] := List.eq_nil_of_length_eq_zero (by rw [erase_len hi]; omega)
    rw [e] at h
    have e2 := BAS.none_idle h
    have h1 := (piece_size (g.piece _ (List.mem_of_getElem? hy))).1
    have h3 : ([] : List Nat).length = (zs.getD i "").cps.size := by rw [← e2]; exact Array.length_toList
    rw [List.length_nil] at h3
    omega
noncomputable def needL (zs : List Str) : List Nat := (List.range zs.length).filter (needD zs)
noncomputable def baseL (zs : List Str) : List Str := (List.range zs.length).filterMap fun i => if needD zs i then none else zs[i]?
theorem mem_baseL {zs : List Str} {y : Str} : y ∈ baseL zs ↔ ∃ i, zs[i]? = some y ∧ needD zs i = false := by
  unfold baseL
  rw [List.mem_filterMap]
  constructor
  · rintro ⟨i, _, h⟩
    split at h
    · cases h
    · rename_i hn
      exact ⟨i, h, by simpa using hn⟩
  · rintro ⟨i, h, hn⟩
    exact ⟨i, List.mem_range.mpr (List.getElem?_eq_some_iff.mp h).1, by rw [hn]; exact h⟩
theorem is_base {zs : List Str} (g : Good zs) : BAS.IsBase (tls zs) (tls (baseL zs)) := fun w => by
  rw [tls_mem, tls_mem]
  constructor
  · rintro ⟨y, h, rfl⟩
    obtain ⟨i, hi, hn⟩ := mem_baseL.mp h
    have hl := (List.getElem?_eq_some_iff.mp hi).1
    have e : zs.getD i "" = y := Option.some.inj ((getD_at hl).symm.trans hi)
    refine ⟨⟨y, List.mem_of_getElem? hi, rfl⟩, fun hN => ?_⟩
    rw [← e, ← need_iff g hl, hn] at hN
    cases hN
  · rintro ⟨⟨y, h, rfl⟩, hN⟩
    obtain ⟨i, hi⟩ := List.mem_iff_getElem?.mp h
    have hl := (List.getElem?_eq_some_iff.mp hi).1
    have e : zs.getD i "" = y := Option.some.inj ((getD_at hl).symm.trans hi)
    refine ⟨y, mem_baseL.mpr ⟨i, hi, ?_⟩, rfl⟩
    cases hn : needD zs i with
    | false => rfl
    | true => exact absurd (by rw [← e]; exact (need_iff g hl).mp hn) hN
theorem tls_ne0 {zs : List Str} (g : Good zs) : ∀ p, p ∈ tls zs → p ≠ [] := fun p hp e => by
  obtain ⟨y, hy, rfl⟩ := tls_mem.mp hp
  have h1 := (piece_size (g.piece _ hy)).1
  have h3 : ([] : List Nat).length = y.cps.size := by rw [← e]; exact Array.length_toList
  rw [List.length_nil] at h3
  omega
theorem good_base {zs : List Str} (g : Good zs) : Good (baseL zs) := by
  refine ⟨?_, ?_, fun z hz => ?_, ?_⟩
  · rcases Nat.eq_zero_or_pos (baseL zs).length with h | h
    · exfalso
      have hb := is_base g
      have hy := getD_at (zs := zs) (i := 0) g.some
      have h1 := BAS.base_all (tls_ne0 g) hb _ (tl (zs.getD 0 "")) (Nat.le_refl _) (tls_mem.mpr ⟨_, List.mem_of_getElem? hy, rfl⟩)
      rw [List.eq_nil_of_length_eq_zero h] at h1
      exact tls_ne0 g _ (tls_mem.mpr ⟨_, List.mem_of_getElem? hy, rfl⟩) (BAS.none_idle h1)
    · exact h
  · have h1 : (baseL zs).length ≤ (List.range zs.length).length := List.length_filterMap_le _ _
    rw [List.length_range] at h1
    exact Nat.le_trans h1 g.few
  · obtain ⟨i, hi, _⟩ := mem_baseL.mp hz
    exact g.piece z (List.mem_of_getElem? hi)
  · unfold baseL
    refine List.pairwise_filterMap.mpr ((List.pairwise_lt_range).imp_of_mem ?_)
    intro i j hi hj hij x hx y hy e
    subst e
    split at hx
    · cases hx
    · split at hy
      · cases hy
      · have hl := (List.getElem?_eq_some_iff.mp hx).1
        have := (List.getElem?_inj hl g.once).mp (hx.trans hy.symm)
        omega
def spNeedlessP (C : Addr) : Sp := fun vs H Q _ => ∃ (b t : Addr) (zs : List Str), vs = [.ref b] ∧ BookAt H C b t ∧ H t = some (.tup (zs.map V.str)) ∧ Good zs ∧ ∀ p H', H p = none → Same H H' → H' p = some (.tup ((needL zs).map fun i : Nat => V.int (i : Int))) → Q (.ref p) H'
def spBaseP (C : Addr) : Sp := fun vs H Q _ => ∃ (b t : Addr) (zs : List Str), vs = [.ref b] ∧ BookAt H C b t ∧ H t = some (.tup (zs.map V.str)) ∧ Good zs ∧ ∀ b' t' H', H b' = none → H t' = none → Same H H' → BookAt H' C b' t' → H' t' = some (.tup ((baseL zs).map V.str)) → Q (.ref b') H'
section
variable {P : Program} {w : World} {K : PySem.W.Frag} {mg : Str → Option Value} {base : Heap}
theorem ok_q_needless (T : Txt P K mg) : FnOk P w K mg base CX0 7 T.a_q_needless T.fd_q_needless ["book"] (spNeedlessP T.C_Book) := by
  have nd := sc_q_needless.nd
  have G_is_needless : FnOk P w K mg base CX0 6 T.a_is_needless T.fd_is_needless ["book", "number"] (spIsNeedless T.C_Book) := ok_is_needless T
  refine T.F_q_needless.ok sc_q_needless (fun vs H Q E h => ?_) (fun cdv A outer s H vs Q E hr h => ?_)
  · obtain ⟨b, t, zs, rfl, _⟩ := h
    rfl
  · obtain ⟨b, t, zs, rfl, hB, ht, g, q⟩ := h
    refine ⟨_, (pss_one (ps_ret (pe_callTy RB.call_tupO (by rfl) T.m_tuple (by decide +kernel) (pa_cons (pe_lc (own := [("number", 1)]) (g := (gName 1)) rfl nd (pi_range1 (by rfl) T.m_range (pa_cons (pe_callB call_len_seq (by rfl) T.m_len PySem.boot_len (pa_cons (pe_fld (pv 0) rfl) pa_nil)) pa_nil)) (blkOk_by (own := [("number", 1)]) (N := N_q_needless) (sc := defScope s_q_needless) (by decide +kernel)) (fun _ _ _ _ _ => (pg_name (i := 1) nd rfl (Or.inl rfl))) (fun _ _ _ _ _ => (pts_one (pt_val (pe_call G_is_needless hr (by rfl) T.g_is_needless T.F_is_needless.kp T.b_is_needless .nil pass0 (pa_cons (pv 0) (pa_cons (pv 1) pa_nil)))))) (fun _ _ _ _ _ => (pv 1))) pa_nil)))), ?_⟩
    obtain ⟨dx, hb⟩ := hB
    have hlm : (zs.map V.str).length = zs.length := List.length_map ..
    have g12 := g.few
    walk_at "rds"
    refine RB.fldV hb T.cl_Book T.no_Book_pieces rfl ?_
    walk_at "rds"
    rw [hlm]
    refine RD.lcW (walk_range (lo := 0) (n := Int.toNat (zs.length : Int))) (by omega) fun D H2 hD s2 hv2 => ⟨fun i acc H' => Same H H' ∧ acc = ((List.range i).filter (needD zs)).map fun j : Nat => V.int (j : Int), ⟨s2, rfl⟩, fun _ _ _ _ _ => trivial, fun i x acc H3 H4 Z N hi hp hDa hy hZ hN => ?_, fun acc H3 hp hDa => ?_⟩
    · obtain ⟨s3, rfl⟩ := hp
      obtain ⟨rfl, rfl⟩ := hy
      rw [show (fun i : Nat => V.int (0 + (i : Int))) i = V.int (i : Int) from congrArg V.int (Int.zero_add _)]
      walk_at "rds"
      refine ⟨rfl, ?_⟩
      walk_at "rds"
      refine ⟨b, t, zs, i, rfl, ⟨dx, s3 _ _ hb⟩, s3 _ _ ht, g, by omega, fun H5 s5 => ?_⟩
      have hD5 := s5 _ _ hDa
      walk_at "rds"
      refine RD.ite_b (fun e => ?_) (fun e => ?_)
      · walk_at "rds"
        refine hZ _ _ hD5 fun H6 k6 h6 => ⟨RD.same_mut k6 (s3.trans s5) hD, ?_⟩
        rw [List.range_succ, List.filter_append, List.map_append, List.filter_cons, e]
        rfl
      · refine hN _ hD5 ⟨s3.trans s5, ?_⟩
        rw [List.range_succ, List.filter_append, List.filter_cons, e]
        simp
    · obtain ⟨s3, rfl⟩ := hp
      walk_at "rds"
      exact q _ _ (s3.free hp) (s3.trans hs) (by rw [hv]; rfl)
theorem ok_base (T : Txt P K mg) : FnOk P w K mg base CX0 8 T.a_base T.fd_base ["book"] (spBaseP T.C_Book) := by
  have nd := sc_base.nd
  have G_is_needless : FnOk P w K mg base CX0 7 T.a_is_needless T.fd_is_needless ["book", "number"] (spIsNeedless T.C_Book) := (ok_is_needless T).mono (by decide)
  have G_Book_init : FnOk P w K mg base (L2.CX P w) 6 T.a_Book_init T.fd_Book_init ["self", "pieces"] (spBook K T.C_Book T.C_BadBook) := (ok_Book_init T).mono (by decide)
  refine T.F_base.ok sc_base (fun vs H Q E h => ?_) (fun cdv A outer s H vs Q E hr h => ?_)
  · obtain ⟨b, t, zs, rfl, _⟩ := h
    rfl
  · obtain ⟨b, t, zs, rfl, hB, ht, g, q⟩ := h
    refine ⟨_, (pss_one (ps_ret (pe_make T.M_Book G_Book_init hr (by rfl) T.g_Book T.b_Book_init .nil NR.passN (pa_cons (pe_callTy RB.call_tupO (by rfl) T.m_tuple (by decide +kernel) (pa_cons (pe_lc (own := [("number", 1), ("piece", 2)]) (g := (gTup K 2 (gCons (gName 1) (gCons (gName 2) gNil)))) rfl nd (NR.pi_enumT (by rfl) T.m_enumerate (pa_cons (pe_fld (pv 0) rfl) pa_nil)) (blkOk_by (own := [("number", 1), ("piece", 2)]) (N := N_base) (sc := defScope s_base) (by decide +kernel)) (fun _ _ _ _ _ => (pg_tup rfl (pgs_cons (pg_name (i := 1) nd rfl (Or.inl rfl)) (pgs_cons (pg_name (i := 2) nd rfl (Or.inl rfl)) pgs_nil)))) (fun _ _ _ _ _ => (pts_one (pt_not (pt_val (pe_call G_is_needless hr (by rfl) T.g_is_needless T.F_is_needless.kp T.b_is_needless .nil pass0 (pa_cons (pv 0) (pa_cons (pv 1) pa_nil))))))) (fun _ _ _ _ _ => (pv 2))) pa_nil)) pa_nil)))), ?_⟩
    obtain ⟨dx, hb⟩ := hB
    have hlm : (zs.map V.str).length = zs.length := List.length_map ..
    have g12 := g.few
    walk_at "rds"
    refine RB.fldV hb T.cl_Book T.no_Book_pieces rfl ?_
    walk_at "rds"
    refine RD.lcW (NR.w_enumT (xs := zs.map V.str)) (by omega) fun D H2 hD s2 hv2 => ⟨fun i acc H' => Same H H' ∧ acc = ((List.range i).filterMap fun i => if needD zs i then none else zs[i]?).map V.str, ⟨s2, rfl⟩, fun i acc H' _ p => (by have := p.1; walk_at "st"), fun i x acc H3 H4 Z N hi hp hDa hy hZ hN => ?_, fun acc H3 hp hDa => ?_⟩
    · obtain ⟨s3, rfl⟩ := hp
      obtain ⟨T1, x1, y1, rfl, hT, s4, hv4, hx1, hy1⟩ := hy
      obtain rfl : V.int (i : Nat) = x1 := Option.some.inj hx1
      obtain ⟨y, rfl, hyi⟩ : ∃ y, y1 = .str y ∧ zs[i]? = some y := by
        have hy1 : (zs.map V.str)[i]? = some y1 := hy1
        rw [List.getElem?_map] at hy1
        obtain ⟨y, h1, h2⟩ := Option.map_eq_some_iff.mp hy1
        exact ⟨y, h2.symm, h1⟩
      have hD4 := s4 _ _ hDa
      have s34 := s3.trans s4
      walk_at "rds"
      refine ⟨rfl, ?_⟩
      walk_at "rds"
      refine ⟨b, t, zs, i, rfl, ⟨dx, s34 _ _ hb⟩, s34 _ _ ht, g, by omega, fun H5 s5 => ?_⟩
      have hD5 := s5 _ _ hD4
      walk_at "rds"
      refine RD.ite_b (fun e => ?_) (fun e => ?_)
      · have e : needD zs i = false := by simpa using e
        walk_at "rds"
        refine hZ _ _ hD5 fun H6 k6 h6 => ⟨RD.same_mut k6 (s34.trans s5) hD, ?_⟩
        rw [List.range_succ, List.filterMap_append, List.map_append, List.filterMap_cons, e]
        simp [hyi]
      · have e : needD zs i = true := by simpa using e
        refine hN _ hD5 ⟨s34.trans s5, ?_⟩
        rw [List.range_succ, List.filterMap_append, List.filterMap_cons, e]
        simp
    · obtain ⟨s3, rfl⟩ := hp
      rw [hlm] at hDa
      walk_at "rds"
      have hp5 := hp
      have s5 := hs
      have h5 : H' p' = some (.tup ((baseL zs).map V.str)) := hv
      clear hp hs hv
      generalize p' = p at hp5 h5
      generalize H' = H5 at s5 h5
      have g2 := good_base g
      refine RB.made fun b2 H6 dx2 hb2 s6 hb6 => ?_
      have nb : p ≠ b2 := fun e => by
        have := s6 _ _ h5
        rw [e, hb6] at this
        cases this
      refine ⟨b2, b2, dx2, 1, .ref p, rfl, hb6, dq_pieces g2 (s6 _ _ h5) nb, fun H7 _ k7 h7 => ⟨rfl, ?_⟩, fun r d H' hr ne _ _ _ => absurd (hr.one (DueR.of (s6 _ _ h5) g2)) ne⟩
      have s7 := same_of_kb s6 hb2 k7
      exact q b2 p H7 ((s3.trans s5).free hb2) (s3.free hp5) ((s3.trans s5).trans s7) ⟨dx2, h7⟩ (s7 _ _ h5)
end


end K27

namespace K27
open PySem PySem.Spec PyProof.Rows L2
local macro_rules | `(tactic| walk_at "kd") => `(tactic| first | assumption | exact SPD.KdOf.int _ | exact SPD.KdOf.str _ | exact SPD.KdOf.bl _ | exact SPD.KdOf.non | exact SPD.KdOf.same (by assumption) (by walk_at "kd") | exact SPD.KdOf.tup (by walk_at "hp") | exact SPD.KdOf.lst (by walk_at "hp") | fail "no")
local macro_rules | `(tactic| walk_at "ne") => `(tactic| first | assumption | exact Ne.symm (by assumption) | fail "no")
local macro_rules | `(tactic| walk_at "hp") => `(tactic| first | assumption | exact RD.at_same (by assumption) (by walk_at "hp") | exact RD.at_kb (by assumption) (by walk_at "ne") (by walk_at "hp") | fail "no")
local macro_rules | `(tactic| walk_at "sq") => `(tactic| first | assumption | exact Or.inl (Or.inl (by walk_at "hp")) | exact Same.seq (by assumption) (by walk_at "sq") | exact RD.KB.seq (by assumption) (by walk_at "ne") (by walk_at "sq") | fail "no")
local macro_rules | `(tactic| walk_at "st") => `(tactic| first | assumption | exact Or.inl (Or.inl (by walk_at "hp")) | exact RD.Same.tup (by assumption) (by walk_at "st") | exact RD.KB.tup (by assumption) (by walk_at "ne") (by walk_at "st") | fail "no")
local macro_rules | `(tactic| walk_at "rd") => `(tactic| first
  | with_reducible refine RD.c ?_
  | ((with_reducible refine' RD.var ?rdE ?rdK); (case rdE => exact rfl))
  | with_reducible refine RD.op ?_
  | with_reducible refine RD.un ?_
  | with_reducible refine RD.nil ?_
  | with_reducible refine RD.cons ?_
  | with_reducible refine RD.cb ?_
  | with_reducible refine RD.call ?_
  | with_reducible refine RD.test ?_
  | with_reducible refine RD.tb' ?_
  | with_reducible refine RD.bl ?_
  | with_reducible refine RD.and' ?_
  | with_reducible refine RD.or' ?_
  | with_reducible refine RD.not' ?_
  | with_reducible refine RD.andV ?_
  | with_reducible refine RD.orV ?_
  | with_reducible refine RD.notV ?_
  | with_reducible refine RD.ife ?_
  | with_reducible refine RD.sl ?_
  | with_reducible refine RD.part ?_
  | with_reducible refine RD.noPart ?_
  | with_reducible refine RD.partI ?_
  | with_reducible refine RD.rd0 ?_
  | with_reducible refine RD.rdU ?_
  | ((with_reducible refine' RD.rdEq ?rdE ?rdK); (case rdE => rfl))
  | ((with_reducible refine' RD.rdNe ?rdE ?rdK); (case rdE => rfl))
  | ((with_reducible refine' RD.ixL ?rdH ?rdE ?rdK); (case rdH => walk_at "sq"); (case rdE => first | rfl | assumption))
  | ((with_reducible refine' RD.rdI ?rdC ?rdK); (case rdC => first | assumption | (show (0 : Int) < _; first | decide | omega) | exact ⟨by decide, by decide⟩ | exact ⟨by assumption, by assumption⟩ | exact .inr ⟨by decide, by decide⟩ | exact .inl ⟨by decide, by decide⟩ | exact ⟨by decide, by decide, by decide⟩ | exact .inl ⟨by omega, by omega⟩))
  | ((with_reducible refine' RD.setL ?rdH ?rdE ?rdK); (case rdH => walk_at "hp"); (case rdE => rfl); intro $(Lean.mkIdent `H'):ident $(Lean.mkIdent `hk):ident $(Lean.mkIdent `hv):ident)
  | ((with_reducible refine' RD.irng1V ?rdA ?rdB ?rdK); (case rdA => first | decide | omega); (case rdB => first | decide | omega))
  | with_reducible refine RD.int1 ?_
  | with_reducible refine RD.abs1 ?_
  | ((with_reducible refine' RD.len ?rdH ?rdK); (case rdH => first | exact Or.inl (by walk_at "sq") | exact Or.inr (by walk_at "st")))
  | with_reducible refine RD.tup ?_
  | with_reducible refine RD.lst ?_
  | with_reducible refine RD.ite1 ?_
  | with_reducible refine RD.ite0 ?_
  | with_reducible refine RD.ite1n ?_
  | with_reducible refine RD.ite0n ?_
  | with_reducible refine RD.seq ?_
  | with_reducible refine RD.asg ?_
  | with_reducible refine RD.name ?_
  | with_reducible refine RD.ret ?_
  | with_reducible refine RD.drop ?_
  | with_reducible refine RD.next ?_
  | with_reducible refine RD.ifs ?_
  | with_reducible refine RD.par ?_
  | with_reducible refine RD.par2 ?_
  | with_reducible refine RD.sub ?_
  | with_reducible refine RD.gcons ?_
  | with_reducible refine RD.gnil ?_
  | with_reducible refine RD.bm ?_
  | ((with_reducible refine' RD.bmL ?rdH ?rdK); (case rdH => walk_at "sq"))
  | ((with_reducible refine' RD.newZ ?rdH ?rdK); (case rdH => exact RD.sz _); intro $(Lean.mkIdent `p'):ident $(Lean.mkIdent `H'):ident $(Lean.mkIdent `hp):ident $(Lean.mkIdent `hs):ident $(Lean.mkIdent `hv):ident; (try have $(Lean.mkIdent `hn):ident := hand_ne $(Lean.mkIdent `hp):ident (by walk_at "hk")))
  | with_reducible refine RD.fors ?_
  | with_reducible refine RD.lc ?_
  | with_reducible refine RD.yes ?_
  | with_reducible refine RD.ilist ?_
  | ((with_reducible refine' RD.ilistV ?rdH ?rdK); (case rdH => walk_at "sq"))
  | with_reducible refine RD.itup ?_
  | ((with_reducible refine' RD.itupV ?rdH ?rdK); (case rdH => walk_at "st"))
  | with_reducible refine RD.irng1 ?_
  | with_reducible refine RD.irng2 ?_
  | ((with_reducible refine' RD.irng2V ?rdA ?rdK); (case rdA => first | decide | omega))
  | with_reducible refine RD.ienum ?_
  | ((with_reducible refine' RD.ienumV ?rdH ?rdK); (case rdH => walk_at "sq"))
  | with_reducible refine RD.izip ?_
  | ((with_reducible refine' RD.izipV ?rdH ?rdE ?rdK); (case rdH => walk_at "sq"); (case rdE => walk_at "sq"))
  | with_reducible refine SPD.izipA ?_
  | with_reducible refine RD.istr ?_
  | with_reducible refine RD.istrV ?_
  | ((with_reducible refine' RD.slL ?rdH ?rdK); (case rdH => walk_at "sq"); intro $(Lean.mkIdent `p'):ident $(Lean.mkIdent `H'):ident $(Lean.mkIdent `hp):ident $(Lean.mkIdent `hs):ident $(Lean.mkIdent `hv):ident; (try have $(Lean.mkIdent `hn):ident := hand_ne $(Lean.mkIdent `hp):ident (by walk_at "hk")))
  | ((with_reducible refine' RD.cat ?rdH ?rdE ?rdZ ?rdK); (case rdH => walk_at "hp"); (case rdE => walk_at "hp"); (case rdZ => exact RD.sz _); intro $(Lean.mkIdent `p'):ident $(Lean.mkIdent `H'):ident $(Lean.mkIdent `hp):ident $(Lean.mkIdent `hs):ident $(Lean.mkIdent `hv):ident; (try have $(Lean.mkIdent `hn):ident := hand_ne $(Lean.mkIdent `hp):ident (by walk_at "hk")))
  | ((with_reducible refine' RD.gtup ?rdH ?rdE ?rdK); (case rdH => walk_at "st"); (case rdE => rfl))
  | ((with_reducible refine' RD.app ?rdH ?rdZ ?rdK); (case rdH => walk_at "hp"); (case rdZ => first | assumption | (apply RD.szl; omega)); intro $(Lean.mkIdent `H'):ident $(Lean.mkIdent `hk):ident $(Lean.mkIdent `hv):ident)
  | ((with_reducible refine' RD.all1 ?rdH ?rdK); (case rdH => walk_at "sq"))
  | ((with_reducible refine' RD.any1 ?rdH ?rdK); (case rdH => walk_at "sq"))
  | ((with_reducible refine' SPD.dnew ?rdK); intro $(Lean.mkIdent `p'):ident $(Lean.mkIdent `H'):ident $(Lean.mkIdent `hp):ident $(Lean.mkIdent `hs):ident $(Lean.mkIdent `hv):ident; (try have $(Lean.mkIdent `hn):ident := hand_ne $(Lean.mkIdent `hp):ident (by walk_at "hk")))
  | ((with_reducible refine' SPD.disp1 ?rdK); intro $(Lean.mkIdent `p'):ident $(Lean.mkIdent `H'):ident $(Lean.mkIdent `hp):ident $(Lean.mkIdent `hs):ident $(Lean.mkIdent `hv):ident; (try have $(Lean.mkIdent `hn):ident := hand_ne $(Lean.mkIdent `hp):ident (by walk_at "hk")))
  | ((with_reducible refine' SPD.isSeq ?rdH ?rdE ?rdK); (case rdH => walk_at "hp"); (case rdE => walk_at "kd"))
  | ((with_reducible refine' SPD.isTup ?rdE ?rdK); (case rdE => walk_at "kd"))
  | ((with_reducible refine' SPD.isLst ?rdE ?rdK); (case rdE => walk_at "kd"))
  | ((with_reducible refine' SPD.isBool ?rdE ?rdK); (case rdE => walk_at "kd"))
  | ((with_reducible refine' SPD.isStr ?rdE ?rdK); (case rdE => walk_at "kd"))
  | ((with_reducible refine' SPD.isInt ?rdE ?rdK); (case rdE => walk_at "kd"))
  | dsimp only)
local macro_rules | `(tactic| walk_at "rds") => `(tactic| repeat walk_at "rd")
local macro_rules | `(tactic| walk_at "sm") => `(tactic| first | assumption | exact Same.refl _ | exact RD.sm_tr (by assumption) (by walk_at "sm") | fail "no")
local macro_rules | `(tactic| walk_at "kb") => `(tactic| first | assumption | exact RD.KB.refl | exact RD.kb_tr (by assumption) (by walk_at "kb") | exact RD.kb_trs (by assumption) (by walk_at "kb") | fail "no")
local macro_rules | `(tactic| walk_at "fr") => `(tactic| first | assumption | exact RD.fr_of (by assumption) (by walk_at "sm") | fail "no")
local macro_rules | `(tactic| walk_at "hk") => `(tactic| first | assumption | exact hand_same (by assumption) (by walk_at "hk") | exact hand_kb (by assumption) (by walk_at "fr") (by walk_at "hk") | fail "no")
local macro_rules | `(tactic| walk_at "na") => `(tactic| first | assumption | exact hand_ne (by assumption) (by walk_at "hk") | fail "no")
local macro_rules | `(tactic| walk_at "dqa") => `(tactic| first | exact SPD.DqA.nil | exact SPD.DqA.cons (by walk_at "dq") (by walk_at "dqa") | exact SPD.DqA.app (by walk_at "dqa") (by walk_at "dqa") | fail "no")
local macro_rules | `(tactic| walk_at "dq") => `(tactic| first | assumption | exact SPD.Dq.leaf rfl | exact SPD.dq_kb (by assumption) (by walk_at "kb") | exact SPD.dqTup (by walk_at "hp") (by walk_at "na") (by walk_at "dqa") | exact SPD.dqLst (by walk_at "hp") (by walk_at "na") (by walk_at "dqa") | exact SPD.dqNil (by walk_at "hp") (by walk_at "na") (by first | decide | simp) (by first | decide | simp) | fail "no")

local macro_rules | `(tactic| walk_at "rd") => `(tactic| first
  | with_reducible refine RB.chain ?_
  | with_reducible refine RB.m1 ?_
  | with_reducible refine RB.strE ?_
  | with_reducible refine RB.fld ?_
  | with_reducible refine RB.setF ?_
  | with_reducible refine RB.ss ?_
  | with_reducible refine RB.rev ?_
  | with_reducible refine RB.make ?_
  | with_reducible refine RB.makeS ?_
  | with_reducible refine RB.mkO ?_
  | with_reducible refine NR.ienumT ?_
  | with_reducible refine RB.inS ?_
  | with_reducible refine RB.bmS ?_
  | with_reducible refine RB.callS ?_
  | with_reducible refine RB.sw3 ?_
  | with_reducible refine RB.par3 ?_
  | with_reducible refine RB.par3V ?_
  | ((with_reducible refine' RB.slS ?rdH ?rdK); (case rdH => walk_at "sz"))
  | with_reducible refine RB.xf ?_
  | ((with_reducible refine' RB.xfV ?rdH ?rdE ?rdK); (case rdH => walk_at "hp"); (case rdE => rfl))
  | ((with_reducible refine' NR.ienumTV ?rdH ?rdK); (case rdH => walk_at "st"))
  | ((with_reducible refine' RB.lenL ?rdH ?rdK); (case rdH => walk_at "sq"))
  | ((with_reducible refine' RB.lenT ?rdH ?rdK); (case rdH => walk_at "st"))
  | ((with_reducible refine' RB.lenS ?rdH ?rdK); (case rdH => walk_at "sz"))
  | ((with_reducible refine' RD.lenS ?rdH ?rdK); (case rdH => walk_at "sz"))
  | ((with_reducible refine' RB.slT ?rdH ?rdK); (case rdH => walk_at "hp"); intro $(Lean.mkIdent `p'):ident $(Lean.mkIdent `H'):ident $(Lean.mkIdent `hs):ident $(Lean.mkIdent `hv):ident $(Lean.mkIdent `hp):ident; (try have $(Lean.mkIdent `hn):ident := two_ne $(Lean.mkIdent `hp):ident (by walk_at "na") (by walk_at "hk")))
  | ((with_reducible refine' RB.revV ?rdH ?rdK); (case rdH => walk_at "st"); intro $(Lean.mkIdent `p'):ident $(Lean.mkIdent `H'):ident $(Lean.mkIdent `hp):ident $(Lean.mkIdent `hs):ident $(Lean.mkIdent `hv):ident; (try have $(Lean.mkIdent `hn):ident := hand_ne $(Lean.mkIdent `hp):ident (by walk_at "hk")))
  | ((with_reducible refine' RB.listS ?rdH ?rdK); (case rdH => walk_at "sz"); intro $(Lean.mkIdent `p'):ident $(Lean.mkIdent `H'):ident $(Lean.mkIdent `hp):ident $(Lean.mkIdent `hs):ident $(Lean.mkIdent `hv):ident; (try have $(Lean.mkIdent `hn):ident := hand_ne $(Lean.mkIdent `hp):ident (by walk_at "hk")))
  | ((with_reducible refine' RB.listO ?rdH ?rdK); (case rdH => first | exact Or.inl (by walk_at "sq") | exact Or.inr (by walk_at "st")); intro $(Lean.mkIdent `p'):ident $(Lean.mkIdent `H'):ident $(Lean.mkIdent `hp):ident $(Lean.mkIdent `hs):ident $(Lean.mkIdent `hv):ident; (try have $(Lean.mkIdent `hn):ident := hand_ne $(Lean.mkIdent `hp):ident (by walk_at "hk")))
  | ((with_reducible refine' RB.tupL ?rdH ?rdK); (case rdH => walk_at "sq"); intro $(Lean.mkIdent `p'):ident $(Lean.mkIdent `H'):ident $(Lean.mkIdent `hp):ident $(Lean.mkIdent `hs):ident $(Lean.mkIdent `hv):ident; (try have $(Lean.mkIdent `hn):ident := hand_ne $(Lean.mkIdent `hp):ident (by walk_at "hk")))
  | ((with_reducible refine' RB.catT ?rdH ?rdE ?rdZ ?rdK); (case rdH => walk_at "hp"); (case rdE => walk_at "hp"); (case rdZ => exact RB.LN.sum (by walk_at "ln") (by walk_at "ln") rfl); intro $(Lean.mkIdent `p'):ident $(Lean.mkIdent `H'):ident $(Lean.mkIdent `hs):ident $(Lean.mkIdent `hv):ident $(Lean.mkIdent `hp):ident; (try have $(Lean.mkIdent `hn):ident := three_ne $(Lean.mkIdent `hp):ident (by walk_at "na") (by walk_at "na") (by walk_at "hk")))
  | fail "no")
local macro_rules | `(tactic| walk_at "ln") => `(tactic| first | with_reducible assumption | exact RB.LN.cut (by walk_at "ln") | exact RB.LN.app (by walk_at "ln") (by walk_at "ln") | exact RB.LN.rev (by walk_at "ln") | exact RB.LN.rep (by walk_at "ln") | exact RB.LN.lit rfl | fail "no")
local macro_rules | `(tactic| walk_at "sz") => `(tactic| first | assumption | exact RD.sz _ | fail "no")

local macro_rules | `(tactic| walk_at "dk") => `(tactic| first | exact FR.rd_of (by walk_at "hp") | exact Or.inr ⟨_, by walk_at "hp"⟩ | fail "no")
local macro_rules | `(tactic| walk_at "rd") => `(tactic| first
  | with_reducible refine FR.dget ?_
  | with_reducible refine FR.din ?_
  | with_reducible refine FR.dnotin ?_
  | with_reducible refine FR.dc ?_
  | with_reducible refine FR.ikeys ?_
  | with_reducible refine FR.ivals ?_
  | with_reducible refine FR.bm0 ?_
  | ((with_reducible refine' FR.dinS ?rdH ?rdK); (case rdH => walk_at "dk"))
  | ((with_reducible refine' FR.keysV ?rdH ?rdK); (case rdH => walk_at "hp"))
  | ((with_reducible refine' FR.valsV ?rdH ?rdK); (case rdH => walk_at "hp"))
  | ((with_reducible refine' FR.bmD ?rdH ?rdK); (case rdH => walk_at "hp"))
  | with_reducible refine FR.ckw ?_
  | with_reducible refine FR.dget2 ?_
  | ((with_reducible refine' FR.isdV ?rdH ?rdK); (case rdH => walk_at "dk"))
  | ((with_reducible refine' FR.dg2S ?rdH ?rdK); (case rdH => walk_at "dk"))
  | ((with_reducible refine' FR.lenD ?rdH ?rdK); (case rdH => walk_at "hp"))
  | fail "no")

local macro_rules | `(tactic| walk_at "rd") => `(tactic| first
  | with_reducible refine BH.iitems ?_
  | with_reducible refine BH.revl ?_
  | ((with_reducible refine' BH.dg2I ?rdH ?rdK); (case rdH => walk_at "dk"))
  | ((with_reducible refine' BH.catN ?rdH ?rdE ?rdZ ?rdK); (case rdH => walk_at "hp"); (case rdE => walk_at "hp"); (case rdZ => assumption); intro $(Lean.mkIdent `p'):ident $(Lean.mkIdent `H'):ident $(Lean.mkIdent `hs):ident $(Lean.mkIdent `hv):ident)
  | fail "no")

/-! ### the parting log -/
theorem bookAt_ext {H H' : Hp} {C b t : Addr} (h : BookAt H C b t) (e : LamX.ExtN H H') : BookAt H' C b t := by
  obtain ⟨dx, h⟩ := h
  exact ⟨dx, e _ _ h fun ps z => by cases z⟩
theorem tup_ext {H H' : Hp} {a : Addr} {xs : List V} (h : H a = some (.tup xs)) (e : LamX.ExtN H H') : H' a = some (.tup xs) := e _ _ h fun ps z => by cases z
theorem lst_ext {H H' : Hp} {a : Addr} {xs : List V} (h : H a = some (.lst xs)) (e : LamX.ExtN H H') : H' a = some (.lst xs) := e _ _ h fun ps z => by cases z
/-- the pieces that part two books -/
noncomputable def partL (zs ws : List Str) : List Str := (zs.filter fun y => !idD ws y) ++ (ws.filter fun y => !idD zs y)
def spPartingP (C : Addr) (TT : List (Addr × Str)) : Sp := fun vs H Q _ => ∃ (b c t u : Addr) (zs ws : List Str), vs = [.ref b, .ref c] ∧ BookAt H C b t ∧ H t = some (.tup (zs.map V.str)) ∧ Good zs ∧ BookAt H C c u ∧ H u = some (.tup (ws.map V.str)) ∧ Good ws ∧ LamX.Tabs TT H ∧
  (partL zs ws = [] → ∀ H', LamX.ExtN H H' → LamX.Tabs TT H' → Q .non H') ∧ ∀ z H', z ∈ partL zs ws → (∀ y, y ∈ partL zs ws → SKL.leS z y = true) → LamX.ExtN H H' → LamX.Tabs TT H' → Q (.str z) H'
def spIsHeld (C : Addr) : Sp := fun vs H Q _ => ∃ (b c t u : Addr) (zs ws : List Str), vs = [.ref b, .ref c] ∧ BookAt H C b t ∧ H t = some (.tup (zs.map V.str)) ∧ Good zs ∧ BookAt H C c u ∧ H u = some (.tup (ws.map V.str)) ∧ Good ws ∧ ∀ H', Same H H' → Q (.bl (zs.all fun y => idD ws y)) H'
theorem minLamD {K : PySem.W.Frag} {T : List (Addr × Str)} {ta : TE} {σ : L2.St} {H : Hp} {Q : VK} (h : ta σ H fun x H1 => ∃ (a : Addr) (zs : List Str), x = .ref a ∧ SqL K H1 a (zs.map V.str) ∧ (∀ z, z ∈ zs → z.length ≤ sizeLine) ∧ LamX.Tabs T H1 ∧
  (zs = [] → ∀ H2, LamX.ExtN H1 H2 → LamX.Tabs T H2 → Q .non H2) ∧ ∀ H2 z, LamX.ExtN H1 H2 → LamX.Tabs T H2 → z ∈ zs → (∀ y, y ∈ zs → SKL.leS z y = true) → Q (.str z) H2) : MKD.tMinLamD K T ta σ H Q := h
section
variable {P : Program} {w : World} {K : PySem.W.Frag} {mg : Str → Option Value} {base : Heap}
theorem book_ty (T : Txt P K mg) {H : Hp} {b t : Addr} (h : BookAt H T.C_Book b t) : TyX K H (.ref b) (.ref T.C_Book) := by
  obtain ⟨dx, h⟩ := h
  exact .base (.ins h T.cl_Book T.ty_Book.1 T.ty_Book.2.1 T.ty_Book.2.2.1 T.ty_Book.2.2.2)
theorem ok_is_held (T : Txt P K mg) : FnOk P w K mg base CX0 6 T.a_is_held T.fd_is_held ["book", "other"] (spIsHeld T.C_Book) := by
  have nd := sc_is_held.nd
  have G_raw_is_idle : FnOk P w K mg base CX0 5 T.a_raw_is_idle T.fd_raw_is_idle ["book", "log"] (spRawIdle T.C_Book) := (ok_raw_is_idle T).mono (by decide)
  refine T.F_is_held.ok sc_is_held (fun vs H Q E h => ?_) (fun cdv A outer s H vs Q E hr h => ?_)
  · obtain ⟨b, c, t, u, zs, ws, rfl, _⟩ := h
    rfl
  · obtain ⟨b, c, t, u, zs, ws, rfl, hB, ht, gz, hC, hu, gw, q⟩ := h
    refine ⟨_, (pss_one (ps_ret (pe_and (pe_callB call_isi (by rfl) T.m_isinstance (by decide +kernel) (pa_cons (pv 1) (pa_cons (pe_glob (v := .ref T.C_Book) (by rfl) T.g_Book rfl) pa_nil))) (pe_one (pe_callB (cr_all rfl) (by rfl) T.m_all (by decide +kernel) (pa_cons (pe_lc (own := [("piece", 2)]) (g := (gName 2)) rfl nd (pi_tup (pe_fld (pv 0) rfl)) (blkOk_by (own := [("piece", 2)]) (N := N_is_held) (sc := defScope s_is_held) (by decide +kernel)) (fun _ _ _ _ _ => (pg_name (i := 2) nd rfl (Or.inl rfl))) (fun _ _ _ _ _ => pts_nil) (fun _ _ _ _ _ => (pe_call G_raw_is_idle hr (by rfl) T.g_raw_is_idle T.F_raw_is_idle.kp T.b_raw_is_idle .nil pass0 (pa_cons (pv 1) (pa_cons (pv 2) pa_nil))))) pa_nil)))))), ?_⟩
    have hty := book_ty T hC
    obtain ⟨dx, hb⟩ := hB
    have hlm : (zs.map V.str).length = zs.length := List.length_map ..
    have g12 := gz.few
    walk_at "rds"
    refine RD.isi (.own _) hty (t := .ref T.C_Book) (by unfold PySem.W.kitOne; rw [if_pos (by simp)]) ?_
    walk_at "rds"
    refine RB.fldV hb T.cl_Book T.no_Book_pieces rfl ?_
    walk_at "rds"
    refine RD.lcF (walk_tup (xs := zs.map V.str)) (by omega) (fun i => (zs[i]?).map fun y => V.bl (idD ws y)) (fun H' s => .inl (.inl (s _ _ ht))) (fun i x H' Z N hi hx s hZ hN => ?_) (fun D H' hD s hv => ?_)
    · rw [List.getElem?_map] at hx
      obtain ⟨y, hy, rfl⟩ := Option.map_eq_some_iff.mp hx
      have hy8 := (piece_size (gz.piece y (List.mem_of_getElem? hy))).2
      walk_at "rds"
      refine ⟨rfl, ?_⟩
      walk_at "rds"
      refine ⟨c, u, ws, y, rfl, hC.same s, s _ _ hu, gw, by omega, fun r H5 hr5 s5 => ?_⟩
      exact hZ _ _ (by rw [hy, eq_idD hr5]; rfl) s5
    · have e : (List.range (zs.map V.str).length).filterMap (fun i => (zs[i]?).map fun y => V.bl (idD ws y)) = (zs.map fun y => idD ws y).map V.bl := by
        rw [List.length_map, RD.range_get (fun y => V.bl (idD ws y)) zs, List.map_map]
        rfl
      rw [e] at hv
      walk_at "rds"
      rw [List.all_map]
      exact q _ s
theorem ok_q_parting (T : Txt P K mg) (TB : ∀ p ∈ T.cs, LamX.TabB base mg p.1 p.2) : FnOk P w K mg base CX0 6 T.a_q_parting T.fd_q_parting ["book", "other"] (spPartingP T.C_Book T.tabs) := by
  have nd := sc_q_parting.nd
  have G_raw_is_idle : FnOk P w K mg base CX0 5 T.a_raw_is_idle T.fd_raw_is_idle ["book", "log"] (spRawIdle T.C_Book) := (ok_raw_is_idle T).mono (by decide)
  refine HXT.okC T.F_q_parting T.ce_q_parting sc_q_parting (fun vs H Q E h => ?_) (fun A outer s H vs Q E hr h => ?_)
  · obtain ⟨b, c, t, u, zs, ws, rfl, _⟩ := h
    rfl
  · obtain ⟨b, c, t, u, zs, ws, rfl, hB, ht, gz, hC, hu, gw, hT, q1, q2⟩ := h
    refine ⟨_, (pss_cons (ps_setLc (i := 2) (own := [("piece", 3)]) (g := (gName 3)) rfl nd rfl rfl (sw_true rfl rfl rfl (by decide +kernel)) (pi_tup (pe_fld (pv 0) rfl)) (blkOk_by (own := [("piece", 3)]) (N := N_q_parting) (sc := defScope s_q_parting) (by decide +kernel)) (fun _ _ _ _ _ => (pg_name (i := 3) nd rfl (Or.inl rfl))) (fun _ _ _ _ _ => (pts_one (pt_not (pt_val (pe_call G_raw_is_idle hr (by rfl) T.g_raw_is_idle T.F_raw_is_idle.kp T.b_raw_is_idle .nil pass0 (pa_cons (pv 1) (pa_cons (pv 3) pa_nil))))))) (fun _ _ _ _ _ => (pv 3)))
  (pss_cons (ps_expr (pe_bm PySem.F.plainAttrs_list PySem.F.slot_list_extend PySem.F.type_list_extend mt_extend (pv 2) (pa_cons (pe_lc (own := [("piece", 3)]) (g := (gName 3)) rfl nd (pi_tup (pe_fld (pv 1) rfl)) (blkOk_by (own := [("piece", 3)]) (N := N_q_parting) (sc := defScope s_q_parting) (by decide +kernel)) (fun _ _ _ _ _ => (pg_name (i := 3) nd rfl (Or.inl rfl))) (fun _ _ _ _ _ => (pts_one (pt_not (pt_val (pe_call G_raw_is_idle hr (by rfl) T.g_raw_is_idle T.F_raw_is_idle.kp T.b_raw_is_idle .nil pass0 (pa_cons (pv 0) (pa_cons (pv 3) pa_nil))))))) (fun _ _ _ _ _ => (pv 3))) pa_nil)))
  (pss_one (ps_ret (MKD.pe_minLamD (T := T.tabs) rfl hr.depth hr.units (by rfl) T.m_min (by decide +kernel) (pv 2) (T.tb_q_parting TB) rfl T.tm_q_parting T.tu_q_parting rfl (NdefX.nscope_by (by decide +kernel)) rfl rfl T.m_len (by decide) (fun _ _ _ _ _ => rfl)))))), ?_⟩
    have hB0 := hB
    have hC0 := hC
    obtain ⟨dx, hb⟩ := hB
    obtain ⟨dy, hc⟩ := hC
    have hlm : (zs.map V.str).length = zs.length := List.length_map ..
    have hlw : (ws.map V.str).length = ws.length := List.length_map ..
    have gz12 := gz.few
    have gw12 := gw.few
    walk_at "rds"
    refine RB.fldV hb T.cl_Book T.no_Book_pieces rfl ?_
    walk_at "rds"
    refine RD.lcW (walk_tup (xs := zs.map V.str)) (by omega) fun D H2 hD s2 hv2 => ⟨fun i acc H' => Same H H' ∧ acc = ((zs.take i).filter fun y => !idD ws y).map V.str, ⟨s2, rfl⟩, fun i acc H' _ p => .inl (.inl (p.1 _ _ ht)), fun i x acc H3 H4 Z N hi hp hDa hy hZ hN => ?_, fun acc H3 hp hDa => ?_⟩
    · obtain ⟨s3, rfl⟩ := hp
      obtain ⟨rfl, hx⟩ := hy
      rw [List.getElem?_map] at hx
      obtain ⟨y, hyj, rfl⟩ := Option.map_eq_some_iff.mp hx
      have hy8 := (piece_size (gz.piece y (List.mem_of_getElem? hyj))).2
      have etk : zs.take (i + 1) = zs.take i ++ [y] := by rw [List.take_add_one, hyj]; rfl
      walk_at "rds"
      refine ⟨rfl, ?_⟩
      walk_at "rds"
      refine ⟨c, u, ws, y, rfl, hC0.same s3, s3 _ _ hu, gw, by omega, fun r H5 hr5 s5 => ?_⟩
      have hD5 := s5 _ _ hDa
      rw [eq_idD hr5]
      walk_at "rds"
      refine RD.ite_b (fun e => ?_) (fun e => ?_)
      · walk_at "rds"
        refine hZ _ _ hD5 fun H6 k6 h6 => ⟨RD.same_mut k6 (s3.trans s5) hD, ?_⟩
        rw [etk, List.filter_append, List.map_append, List.filter_cons, e]
        rfl
      · refine hN _ hD5 ⟨s3.trans s5, ?_⟩
        rw [etk, List.filter_append, List.filter_cons, e]
        simp
    obtain ⟨s3, rfl⟩ := hp
    rw [hlm, List.take_length] at hDa
    walk_at "rds"
    refine RB.fldV (s3 _ _ hc) T.cl_Book T.no_Book_pieces rfl ?_
    have hu3 := s3 _ _ hu
    have ht3 := s3 _ _ ht
    walk_at "rds"
    refine RD.lcW (walk_tup (xs := ws.map V.str)) (by omega) fun D2 H4 hD2 s4 hv4 => ⟨fun i acc H' => Same H3 H' ∧ acc = ((ws.take i).filter fun y => !idD zs y).map V.str, ⟨s4, rfl⟩, fun i acc H' _ p => .inl (.inl (p.1 _ _ hu3)), fun i x acc H5 H6 Z N hi hp hDb hy hZ hN => ?_, fun acc H5 hp hDb => ?_⟩
    · obtain ⟨s5, rfl⟩ := hp
      obtain ⟨rfl, hx⟩ := hy
      rw [List.getElem?_map] at hx
      obtain ⟨y, hyj, rfl⟩ := Option.map_eq_some_iff.mp hx
      have hy8 := (piece_size (gw.piece y (List.mem_of_getElem? hyj))).2
      have etk : ws.take (i + 1) = ws.take i ++ [y] := by rw [List.take_add_one, hyj]; rfl
      walk_at "rds"
      refine ⟨rfl, ?_⟩
      walk_at "rds"
      refine ⟨b, t, zs, y, rfl, (hB0.same s3).same s5, s5 _ _ ht3, gz, by omega, fun r H7 hr7 s7 => ?_⟩
      have hD7 := s7 _ _ hDb
      rw [eq_idD hr7]
      walk_at "rds"
      refine RD.ite_b (fun e => ?_) (fun e => ?_)
      · walk_at "rds"
        refine hZ _ _ hD7 fun H8 k8 h8 => ⟨RD.same_mut k8 (s5.trans s7) hD2, ?_⟩
        rw [etk, List.filter_append, List.map_append, List.filter_cons, e]
        rfl
      · refine hN _ hD7 ⟨s5.trans s7, ?_⟩
        rw [etk, List.filter_append, List.filter_cons, e]
        simp
    obtain ⟨s5, rfl⟩ := hp
    rw [hlw, List.take_length] at hDb
    have hDa5 := s5 _ _ hDa
    have lf : ∀ (p : Str → Bool) (l : List Str), (l.filter p).length ≤ l.length := fun p l => List.length_filter_le _ _
    have f1 := lf (fun y => !idD ws y) zs
    have f2 := lf (fun y => !idD zs y) ws
    walk_at "rds"
    refine RB.ext hDa5 hDb (RD.szo (by rw [List.length_map, List.length_map]; omega)) fun H7 k7 h7 => ?_
    rw [← List.map_append] at h7
    have s37 : Same H H7 := RD.same_mut k7 (s3.trans s5) hD
    have hT7 := HXT.Tabs.same s37 hT
    walk_at "rds"
    refine minLamD ?_
    walk_at "rds"
    refine ⟨D, partL zs ws, rfl, .inl (.inl h7), fun z hz => ?_, hT7, fun e H8 e8 t8 => q1 e _ ((LamX.ExtN.of s37).trans e8) t8, fun H8 z e8 t8 hz hle => q2 z _ hz hle ((LamX.ExtN.of s37).trans e8) t8⟩
    rcases List.mem_append.mp hz with h | h
    · have := (piece_size (gz.piece z (List.mem_filter.mp h).1)).2
      exact small_len (by omega)
    · have := (piece_size (gw.piece z (List.mem_filter.mp h).1)).2
      exact small_len (by omega)
end


end K27

namespace K27
open PySem PySem.Spec PyProof.Rows L2
local macro_rules | `(tactic| walk_at "kd") => `(tactic| first | assumption | exact SPD.KdOf.int _ | exact SPD.KdOf.str _ | exact SPD.KdOf.bl _ | exact SPD.KdOf.non | exact SPD.KdOf.same (by assumption) (by walk_at "kd") | exact SPD.KdOf.tup (by walk_at "hp") | exact SPD.KdOf.lst (by walk_at "hp") | fail "no")
local macro_rules | `(tactic| walk_at "ne") => `(tactic| first | assumption | exact Ne.symm (by assumption) | fail "no")
local macro_rules | `(tactic| walk_at "hp") => `(tactic| first | assumption | exact RD.at_same (by assumption) (by walk_at "hp") | exact RD.at_kb (by assumption) (by walk_at "ne") (by walk_at "hp") | fail "no")
local macro_rules | `(tactic| walk_at "sq") => `(tactic| first | assumption | exact Or.inl (Or.inl (by walk_at "hp")) | exact Same.seq (by assumption) (by walk_at "sq") | exact RD.KB.seq (by assumption) (by walk_at "ne") (by walk_at "sq") | fail "no")
local macro_rules | `(tactic| walk_at "st") => `(tactic| first | assumption | exact Or.inl (Or.inl (by walk_at "hp")) | exact RD.Same.tup (by assumption) (by walk_at "st") | exact RD.KB.tup (by assumption) (by walk_at "ne") (by walk_at "st") | fail "no")
local macro_rules | `(tactic| walk_at "rd") => `(tactic| first
  | with_reducible refine RD.c ?_
  | ((with_reducible refine' RD.var ?rdE ?rdK); (case rdE => exact rfl))
  | with_reducible refine RD.op ?_
  | with_reducible refine RD.un ?_
  | with_reducible refine RD.nil ?_
  | with_reducible refine RD.cons ?_
  | with_reducible refine RD.cb ?_
  | with_reducible refine RD.call ?_
  | with_reducible refine RD.test ?_
  | with_reducible refine RD.tb' ?_
  | with_reducible refine RD.bl ?_
  | with_reducible refine RD.and' ?_
  | with_reducible refine RD.or' ?_
  | with_reducible refine RD.not' ?_
  | with_reducible refine RD.andV ?_
  | with_reducible refine RD.orV ?_
  | with_reducible refine RD.notV ?_
  | with_reducible refine RD.ife ?_
  | with_reducible refine RD.sl ?_
  | with_reducible refine RD.part ?_
  | with_reducible refine RD.noPart ?_
  | with_reducible refine RD.partI ?_
  | with_reducible refine RD.rd0 ?_
  | with_reducible refine RD.rdU ?_
  | ((with_reducible refine' RD.rdEq ?rdE ?rdK); (case rdE => rfl))
  | ((with_reducible refine' RD.rdNe ?rdE ?rdK); (case rdE => rfl))
  | ((with_reducible refine' RD.ixL ?rdH ?rdE ?rdK); (case rdH => walk_at "sq"); (case rdE => first | rfl | assumption))
  | ((with_reducible refine' RD.rdI ?rdC ?rdK); (case rdC => first | assumption | (show (0 : Int) < _; first | decide | omega) | exact ⟨by decide, by decide⟩ | exact ⟨by assumption, by assumption⟩ | exact .inr ⟨by decide, by decide⟩ | exact .inl ⟨by decide, by decide⟩ | exact ⟨by decide, by decide, by decide⟩ | exact .inl ⟨by omega, by omega⟩))
  | ((with_reducible refine' RD.setL ?rdH ?rdE ?rdK); (case rdH => walk_at "hp"); (case rdE => rfl); intro $(Lean.mkIdent `H'):ident $(Lean.mkIdent `hk):ident $(Lean.mkIdent `hv):ident)
  | ((with_reducible refine' RD.irng1V ?rdA ?rdB ?rdK); (case rdA => first | decide | omega); (case rdB => first | decide | omega))
  | with_reducible refine RD.int1 ?_
  | with_reducible refine RD.abs1 ?_
  | ((with_reducible refine' RD.len ?rdH ?rdK); (case rdH => first | exact Or.inl (by walk_at "sq") | exact Or.inr (by walk_at "st")))
  | with_reducible refine RD.tup ?_
  | with_reducible refine RD.lst ?_
  | with_reducible refine RD.ite1 ?_
  | with_reducible refine RD.ite0 ?_
  | with_reducible refine RD.ite1n ?_
  | with_reducible refine RD.ite0n ?_
  | with_reducible refine RD.seq ?_
  | with_reducible refine RD.asg ?_
  | with_reducible refine RD.name ?_
  | with_reducible refine RD.ret ?_
  | with_reducible refine RD.drop ?_
  | with_reducible refine RD.next ?_
  | with_reducible refine RD.ifs ?_
  | with_reducible refine RD.par ?_
  | with_reducible refine RD.par2 ?_
  | with_reducible refine RD.sub ?_
  | with_reducible refine RD.gcons ?_
  | with_reducible refine RD.gnil ?_
  | with_reducible refine RD.bm ?_
  | ((with_reducible refine' RD.bmL ?rdH ?rdK); (case rdH => walk_at "sq"))
  | ((with_reducible refine' RD.newZ ?rdH ?rdK); (case rdH => exact RD.sz _); intro $(Lean.mkIdent `p'):ident $(Lean.mkIdent `H'):ident $(Lean.mkIdent `hp):ident $(Lean.mkIdent `hs):ident $(Lean.mkIdent `hv):ident; (try have $(Lean.mkIdent `hn):ident := hand_ne $(Lean.mkIdent `hp):ident (by walk_at "hk")))
  | with_reducible refine RD.fors ?_
  | with_reducible refine RD.lc ?_
  | with_reducible refine RD.yes ?_
  | with_reducible refine RD.ilist ?_
  | ((with_reducible refine' RD.ilistV ?rdH ?rdK); (case rdH => walk_at "sq"))
  | with_reducible refine RD.itup ?_
  | ((with_reducible refine' RD.itupV ?rdH ?rdK); (case rdH => walk_at "st"))
  | with_reducible refine RD.irng1 ?_
  | with_reducible refine RD.irng2 ?_
  | ((with_reducible refine' RD.irng2V ?rdA ?rdK); (case rdA => first | decide | omega))
  | with_reducible refine RD.ienum ?_
  | ((with_reducible refine' RD.ienumV ?rdH ?rdK); (case rdH => walk_at "sq"))
  | with_reducible refine RD.izip ?_
  | ((with_reducible refine' RD.izipV ?rdH ?rdE ?rdK); (case rdH => walk_at "sq"); (case rdE => walk_at "sq"))
  | with_reducible refine SPD.izipA ?_
  | with_reducible refine RD.istr ?_
  | with_reducible refine RD.istrV ?_
  | ((with_reducible refine' RD.slL ?rdH ?rdK); (case rdH => walk_at "sq"); intro $(Lean.mkIdent `p'):ident $(Lean.mkIdent `H'):ident $(Lean.mkIdent `hp):ident $(Lean.mkIdent `hs):ident $(Lean.mkIdent `hv):ident; (try have $(Lean.mkIdent `hn):ident := hand_ne $(Lean.mkIdent `hp):ident (by walk_at "hk")))
  | ((with_reducible refine' RD.cat ?rdH ?rdE ?rdZ ?rdK); (case rdH => walk_at "hp"); (case rdE => walk_at "hp"); (case rdZ => exact RD.sz _); intro $(Lean.mkIdent `p'):ident $(Lean.mkIdent `H'):ident $(Lean.mkIdent `hp):ident $(Lean.mkIdent `hs):ident $(Lean.mkIdent `hv):ident; (try have $(Lean.mkIdent `hn):ident := hand_ne $(Lean.mkIdent `hp):ident (by walk_at "hk")))
  | ((with_reducible refine' RD.gtup ?rdH ?rdE ?rdK); (case rdH => walk_at "st"); (case rdE => rfl))
  | ((with_reducible refine' RD.app ?rdH ?rdZ ?rdK); (case rdH => walk_at "hp"); (case rdZ => first | assumption | (apply RD.szl; omega)); intro $(Lean.mkIdent `H'):ident $(Lean.mkIdent `hk):ident $(Lean.mkIdent `hv):ident)
  | ((with_reducible refine' RD.all1 ?rdH ?rdK); (case rdH => walk_at "sq"))
  | ((with_reducible refine' RD.any1 ?rdH ?rdK); (case rdH => walk_at "sq"))
  | ((with_reducible refine' SPD.dnew ?rdK); intro $(Lean.mkIdent `p'):ident $(Lean.mkIdent `H'):ident $(Lean.mkIdent `hp):ident $(Lean.mkIdent `hs):ident $(Lean.mkIdent `hv):ident; (try have $(Lean.mkIdent `hn):ident := hand_ne $(Lean.mkIdent `hp):ident (by walk_at "hk")))
  | ((with_reducible refine' SPD.disp1 ?rdK); intro $(Lean.mkIdent `p'):ident $(Lean.mkIdent `H'):ident $(Lean.mkIdent `hp):ident $(Lean.mkIdent `hs):ident $(Lean.mkIdent `hv):ident; (try have $(Lean.mkIdent `hn):ident := hand_ne $(Lean.mkIdent `hp):ident (by walk_at "hk")))
  | ((with_reducible refine' SPD.isSeq ?rdH ?rdE ?rdK); (case rdH => walk_at "hp"); (case rdE => walk_at "kd"))
  | ((with_reducible refine' SPD.isTup ?rdE ?rdK); (case rdE => walk_at "kd"))
  | ((with_reducible refine' SPD.isLst ?rdE ?rdK); (case rdE => walk_at "kd"))
  | ((with_reducible refine' SPD.isBool ?rdE ?rdK); (case rdE => walk_at "kd"))
  | ((with_reducible refine' SPD.isStr ?rdE ?rdK); (case rdE => walk_at "kd"))
  | ((with_reducible refine' SPD.isInt ?rdE ?rdK); (case rdE => walk_at "kd"))
  | dsimp only)
local macro_rules | `(tactic| walk_at "rds") => `(tactic| repeat walk_at "rd")
local macro_rules | `(tactic| walk_at "sm") => `(tactic| first | assumption | exact Same.refl _ | exact RD.sm_tr (by assumption) (by walk_at "sm") | fail "no")
local macro_rules | `(tactic| walk_at "kb") => `(tactic| first | assumption | exact RD.KB.refl | exact RD.kb_tr (by assumption) (by walk_at "kb") | exact RD.kb_trs (by assumption) (by walk_at "kb") | fail "no")
local macro_rules | `(tactic| walk_at "fr") => `(tactic| first | assumption | exact RD.fr_of (by assumption) (by walk_at "sm") | fail "no")
local macro_rules | `(tactic| walk_at "hk") => `(tactic| first | assumption | exact hand_same (by assumption) (by walk_at "hk") | exact hand_kb (by assumption) (by walk_at "fr") (by walk_at "hk") | fail "no")
local macro_rules | `(tactic| walk_at "na") => `(tactic| first | assumption | exact hand_ne (by assumption) (by walk_at "hk") | fail "no")
local macro_rules | `(tactic| walk_at "dqa") => `(tactic| first | exact SPD.DqA.nil | exact SPD.DqA.cons (by walk_at "dq") (by walk_at "dqa") | exact SPD.DqA.app (by walk_at "dqa") (by walk_at "dqa") | fail "no")
local macro_rules | `(tactic| walk_at "dq") => `(tactic| first | assumption | exact SPD.Dq.leaf rfl | exact SPD.dq_kb (by assumption) (by walk_at "kb") | exact SPD.dqTup (by walk_at "hp") (by walk_at "na") (by walk_at "dqa") | exact SPD.dqLst (by walk_at "hp") (by walk_at "na") (by walk_at "dqa") | exact SPD.dqNil (by walk_at "hp") (by walk_at "na") (by first | decide | simp) (by first | decide | simp) | fail "no")

local macro_rules | `(tactic| walk_at "rd") => `(tactic| first
  | with_reducible refine RB.chain ?_
  | with_reducible refine RB.m1 ?_
  | with_reducible refine RB.strE ?_
  | with_reducible refine RB.fld ?_
  | with_reducible refine RB.setF ?_
  | with_reducible refine RB.ss ?_
  | with_reducible refine RB.rev ?_
  | with_reducible refine RB.make ?_
  | with_reducible refine RB.makeS ?_
  | with_reducible refine RB.mkO ?_
  | with_reducible refine NR.ienumT ?_
  | with_reducible refine RB.inS ?_
  | with_reducible refine RB.bmS ?_
  | with_reducible refine RB.callS ?_
  | with_reducible refine RB.sw3 ?_
  | with_reducible refine RB.par3 ?_
  | with_reducible refine RB.par3V ?_
  | ((with_reducible refine' RB.slS ?rdH ?rdK); (case rdH => walk_at "sz"))
  | with_reducible refine RB.xf ?_
  | ((with_reducible refine' RB.xfV ?rdH ?rdE ?rdK); (case rdH => walk_at "hp"); (case rdE => rfl))
  | ((with_reducible refine' NR.ienumTV ?rdH ?rdK); (case rdH => walk_at "st"))
  | ((with_reducible refine' RB.lenL ?rdH ?rdK); (case rdH => walk_at "sq"))
  | ((with_reducible refine' RB.lenT ?rdH ?rdK); (case rdH => walk_at "st"))
  | ((with_reducible refine' RB.lenS ?rdH ?rdK); (case rdH => walk_at "sz"))
  | ((with_reducible refine' RD.lenS ?rdH ?rdK); (case rdH => walk_at "sz"))
  | ((with_reducible refine' RB.slT ?rdH ?rdK); (case rdH => walk_at "hp"); intro $(Lean.mkIdent `p'):ident $(Lean.mkIdent `H'):ident $(Lean.mkIdent `hs):ident $(Lean.mkIdent `hv):ident $(Lean.mkIdent `hp):ident; (try have $(Lean.mkIdent `hn):ident := two_ne $(Lean.mkIdent `hp):ident (by walk_at "na") (by walk_at "hk")))
  | ((with_reducible refine' RB.revV ?rdH ?rdK); (case rdH => walk_at "st"); intro $(Lean.mkIdent `p'):ident $(Lean.mkIdent `H'):ident $(Lean.mkIdent `hp):ident $(Lean.mkIdent `hs):ident $(Lean.mkIdent `hv):ident; (try have $(Lean.mkIdent `hn):ident := hand_ne $(Lean.mkIdent `hp):ident (by walk_at "hk")))
  | ((with_reducible refine' RB.listS ?rdH ?rdK); (case rdH => walk_at "sz"); intro $(Lean.mkIdent `p'):ident $(Lean.mkIdent `H'):ident $(Lean.mkIdent `hp):ident $(Lean.mkIdent `hs):ident $(Lean.mkIdent `hv):ident; (try have $(Lean.mkIdent `hn):ident := hand_ne $(Lean.mkIdent `hp):ident (by walk_at "hk")))
  | ((with_reducible refine' RB.listO ?rdH ?rdK); (case rdH => first | exact Or.inl (by walk_at "sq") | exact Or.inr (by walk_at "st")); intro $(Lean.mkIdent `p'):ident $(Lean.mkIdent `H'):ident $(Lean.mkIdent `hp):ident $(Lean.mkIdent `hs):ident $(Lean.mkIdent `hv):ident; (try have $(Lean.mkIdent `hn):ident := hand_ne $(Lean.mkIdent `hp):ident (by walk_at "hk")))
  | ((with_reducible refine' RB.tupL ?rdH ?rdK); (case rdH => walk_at "sq"); intro $(Lean.mkIdent `p'):ident $(Lean.mkIdent `H'):ident $(Lean.mkIdent `hp):ident $(Lean.mkIdent `hs):ident $(Lean.mkIdent `hv):ident; (try have $(Lean.mkIdent `hn):ident := hand_ne $(Lean.mkIdent `hp):ident (by walk_at "hk")))
  | ((with_reducible refine' RB.catT ?rdH ?rdE ?rdZ ?rdK); (case rdH => walk_at "hp"); (case rdE => walk_at "hp"); (case rdZ => exact RB.LN.sum (by walk_at "ln") (by walk_at "ln") rfl); intro $(Lean.mkIdent `p'):ident $(Lean.mkIdent `H'):ident $(Lean.mkIdent `hs):ident $(Lean.mkIdent `hv):ident $(Lean.mkIdent `hp):ident; (try have $(Lean.mkIdent `hn):ident := three_ne $(Lean.mkIdent `hp):ident (by walk_at "na") (by walk_at "na") (by walk_at "hk")))
  | fail "no")
local macro_rules | `(tactic| walk_at "ln") => `(tactic| first | with_reducible assumption | exact RB.LN.cut (by walk_at "ln") | exact RB.LN.app (by walk_at "ln") (by walk_at "ln") | exact RB.LN.rev (by walk_at "ln") | exact RB.LN.rep (by walk_at "ln") | exact RB.LN.lit rfl | fail "no")
local macro_rules | `(tactic| walk_at "sz") => `(tactic| first | assumption | exact RD.sz _ | fail "no")

local macro_rules | `(tactic| walk_at "dk") => `(tactic| first | exact FR.rd_of (by walk_at "hp") | exact Or.inr ⟨_, by walk_at "hp"⟩ | fail "no")
local macro_rules | `(tactic| walk_at "rd") => `(tactic| first
  | with_reducible refine FR.dget ?_
  | with_reducible refine FR.din ?_
  | with_reducible refine FR.dnotin ?_
  | with_reducible refine FR.dc ?_
  | with_reducible refine FR.ikeys ?_
  | with_reducible refine FR.ivals ?_
  | with_reducible refine FR.bm0 ?_
  | ((with_reducible refine' FR.dinS ?rdH ?rdK); (case rdH => walk_at "dk"))
  | ((with_reducible refine' FR.keysV ?rdH ?rdK); (case rdH => walk_at "hp"))
  | ((with_reducible refine' FR.valsV ?rdH ?rdK); (case rdH => walk_at "hp"))
  | ((with_reducible refine' FR.bmD ?rdH ?rdK); (case rdH => walk_at "hp"))
  | with_reducible refine FR.ckw ?_
  | with_reducible refine FR.dget2 ?_
  | ((with_reducible refine' FR.isdV ?rdH ?rdK); (case rdH => walk_at "dk"))
  | ((with_reducible refine' FR.dg2S ?rdH ?rdK); (case rdH => walk_at "dk"))
  | ((with_reducible refine' FR.lenD ?rdH ?rdK); (case rdH => walk_at "hp"))
  | fail "no")

local macro_rules | `(tactic| walk_at "rd") => `(tactic| first
  | with_reducible refine BH.iitems ?_
  | with_reducible refine BH.revl ?_
  | ((with_reducible refine' BH.dg2I ?rdH ?rdK); (case rdH => walk_at "dk"))
  | ((with_reducible refine' BH.catN ?rdH ?rdE ?rdZ ?rdK); (case rdH => walk_at "hp"); (case rdE => walk_at "hp"); (case rdZ => assumption); intro $(Lean.mkIdent `p'):ident $(Lean.mkIdent `H'):ident $(Lean.mkIdent `hs):ident $(Lean.mkIdent `hv):ident)
  | fail "no")

/-! ### the law's own stretches -/
def nV (xs : List Nat) : List V := xs.map fun h : Nat => V.int (h : Int)
/-- a table of flags: rows of its own -/
structure TabAt (H : Hp) (m : Addr) (n : Nat) (F : Nat → Nat → Bool) (rs : List Addr) : Prop where
  here : H m = some (.lst (rs.map V.ref))
  len : rs.length = n + 1
  once : rs.Nodup
  row : ∀ i r, rs[i]? = some r → H r = some (.lst ((List.range (n + 1)).map fun j => V.bl (F i j)))
theorem TabAt.same {H H' : Hp} {m : Addr} {n : Nat} {F : Nat → Nat → Bool} {rs : List Addr} (h : TabAt H m n F rs) (s : Same H H') : TabAt H' m n F rs := ⟨s _ _ h.here, h.len, h.once, fun i r hr => s _ _ (h.row i r hr)⟩
theorem TabAt.ref {H : Hp} {m : Addr} {n : Nat} {F : Nat → Nat → Bool} {rs : List Addr} (h : TabAt H m n F rs) {i : Nat} (hi : i ≤ n) : ∃ r, (rs.map V.ref)[i]? = some (.ref r) ∧ H r = some (.lst ((List.range (n + 1)).map fun j => V.bl (F i j))) := by
  have hl := h.len
  have e : rs[i]? = some rs[i] := List.getElem?_eq_getElem (by omega)
  exact ⟨rs[i], by rw [List.getElem?_map, e]; rfl, h.row i _ e⟩
theorem row_at {n i j : Nat} {F : Nat → Nat → Bool} (hj : j ≤ n) : ((List.range (n + 1)).map fun j => V.bl (F i j))[j]? = some (V.bl (F i j)) := by
  rw [List.getElem?_map, List.getElem?_range (by omega)]
  rfl
/-- the last places of a beginning of a piece, its first letter standing at b, all ahead of e -/
structure SpL (ps : List (List Nat)) (L : List Nat) (b e : Nat) (p : List Nat) (xs : List Nat) : Prop where
  inc : xs.Pairwise (· < ·)
  mem : ∀ h, h ∈ xs ↔ IK.Spots ps L b p (h + 1) ∧ h < e
theorem inc_len {xs : List Nat} {e : Nat} (hi : xs.Pairwise (· < ·)) (h : ∀ x, x ∈ xs → x < e) : xs.length ≤ e := by
  have n : xs.Nodup := hi.imp fun h e => by omega
  cases e with
  | zero =>
    cases xs with
    | nil => exact Nat.le_refl _
    | cons x r => exact absurd (h x List.mem_cons_self) (Nat.not_lt_zero _)
  | succ e => exact IK.few n fun k hk => by have := h k hk; omega
theorem SpL.few {ps : List (List Nat)} {L : List Nat} {b e : Nat} {p : List Nat} {xs : List Nat} (h : SpL ps L b e p xs) : xs.length ≤ e := inc_len h.inc fun x hx => ((h.mem x).mp hx).2
theorem SpL.low {ps : List (List Nat)} {L : List Nat} {b e : Nat} {p : List Nat} {xs : List Nat} (h : SpL ps L b e p xs) {x : Nat} (hx : x ∈ xs) : b ≤ x ∧ x < e ∧ x + 1 ≤ L.length := by
  obtain ⟨h1, h2⟩ := (h.mem x).mp hx
  have := IK.spots_le h1
  omega
theorem SpL.step {ps : List (List Nat)} {L : List Nat} {b e : Nat} {p : List Nat} {xs ys : List Nat} {c : Nat} (h : SpL ps L b e p xs) (hp : p ≠ []) (hi : ys.Pairwise (· < ·)) (hm : ∀ h, h ∈ ys ↔ ∃ s, s ∈ xs ∧ s < h ∧ h < e ∧ L[h]? = some c ∧ IL.I ps L (s + 1) h) : SpL ps L b e (p ++ [c]) ys := by
  refine ⟨hi, fun x => ?_⟩
  rw [hm, IK.spots_more hp]
  constructor
  · rintro ⟨s, hs, h1, h2, h3, h4⟩
    exact ⟨⟨s + 1, ((h.mem s).mp hs).1, x, rfl, h4, h3⟩, h2⟩
  · rintro ⟨⟨y, hy, x', e1, h4, h3⟩, h2⟩
    obtain rfl : x = x' := by omega
    have hy2 := IK.spots_le hy
    obtain ⟨s, rfl⟩ : ∃ s, y = s + 1 := ⟨y - 1, by omega⟩
    have h5 := h4.1
    exact ⟨s, (h.mem s).mpr ⟨hy, by omega⟩, by omega, h2, h3, h4⟩
theorem nat_list : ∀ (ys : List Int), (∀ y, y ∈ ys → 0 ≤ y) → ∃ es : List Nat, ys = es.map fun n : Nat => (n : Int)
  | [], _ => ⟨[], rfl⟩
  | y :: ys, h => by
    obtain ⟨es, e⟩ := nat_list ys fun z hz => h z (List.mem_cons_of_mem _ hz)
    refine ⟨y.toNat :: es, ?_⟩
    rw [e, List.map_cons, Int.toNat_of_nonneg (h y List.mem_cons_self)]
theorem nV_ints (xs : List Nat) : nV xs = (xs.map fun n : Nat => (n : Int)).map V.int := by
  unfold nV
  rw [List.map_map]
  rfl
theorem nV_at {xs : List Nat} {j : Nat} {v : V} (h : (nV xs)[j]? = some v) : ∃ s : Nat, v = .int (s : Int) ∧ xs[j]? = some s := by
  unfold nV at h
  rw [List.getElem?_map] at h
  obtain ⟨s, hs, rfl⟩ := Option.map_eq_some_iff.mp h
  exact ⟨s, rfl, hs⟩
theorem nV_app (xs ys : List Nat) : nV (xs ++ ys) = nV xs ++ nV ys := List.map_append ..
def spStretch : Sp := fun vs H Q _ => ∃ (t m : Addr) (zs : List Str) (z : Str) (b e n : Nat) (F : Nat → Nat → Bool) (rs : List Addr), vs = [.ref t, .str z, .ref m, .int (b : Int), .int (e : Int)] ∧ H t = some (.tup (zs.map V.str)) ∧ Good zs ∧ (tl z).length = n ∧ n ≤ 8 ∧ TabAt H m n F rs ∧ b < e ∧ e ≤ n ∧
  (∀ i j, b ≤ i → i ≤ j → j ≤ e → j - i < e - b → (F i j = true ↔ IL.I (tls zs) (tl z) i j)) ∧ ∀ (r : Bool) H', (r = true ↔ IL.I (tls zs) (tl z) b e) → Same H H' → Q (.bl r) H'
section
variable {P : Program} {w : World} {K : PySem.W.Frag} {mg : Str → Option Value} {base : Heap}
theorem ok_is_stretch (T : Txt P K mg) : FnOk P w K mg base CX0 1 T.a_is_stretch T.fd_is_stretch ["_law_pieces", "_law_log", "_law_is_idle_here", "_law_begin", "_law_end"] spStretch := by
  have nd := sc_is_stretch.nd
  refine T.F_is_stretch.ok sc_is_stretch (fun vs H Q E h => ?_) (fun cdv A outer s H vs Q E hr h => ?_)
  · obtain ⟨t, m, zs, z, b, e, n, F, rs, rfl, _⟩ := h
    rfl
  · obtain ⟨t, m, zs, z, b, e, n, F, rs, rfl, ht, g, hn, hn8, hM, hbe, hen, hF, q⟩ := h
    refine ⟨_, (pss_cons (ps_for PassesOwn.never rfl (pi_tup (pv 0)) (pg_name (i := 5) nd rfl (by first | exact Or.inl rfl | exact Or.inr rfl))
    (Evl.pss_cut (ps_set (i := 6) nd rfl (by first | exact Or.inl rfl | exact Or.inr rfl) (pe_ifExp (pt_cmpR op_eq (pe_ix ix_str (pv 5) pe_int (fun _ _ => rfl)) (pe_ix ix_str (pv 1) (pv 3) (fun _ _ => rfl)) (nomark _)) (pe_lst (pa_cons (pv 3) pa_nil)) (pe_lst pa_nil)))
  (pss_cons (ps_for PassesOwn.never rfl (pi_str (pe_slice sl_str (pv 5) (po_some pe_int) po_none)) (pg_name (i := 7) nd rfl (by first | exact Or.inl rfl | exact Or.inr rfl))
    (pss_cons (ps_set (i := 8) nd rfl (by first | exact Or.inl rfl | exact Or.inr rfl) (pe_lst pa_nil))
  (pss_cons (ps_for PassesOwn.never rfl (pi_list (pv 6)) (pg_name (i := 9) nd rfl (by first | exact Or.inl rfl | exact Or.inr rfl))
    (pss_cons (ps_setLc (i := 10) (own := [("_law_here", 11)]) (g := (gName 11)) rfl nd rfl rfl (sw_true rfl rfl rfl (by decide +kernel)) (pi_range2 (by rfl) T.m_range (pa_cons (pe_op op_add (pv 9) pe_int) (pa_cons (pv 4) pa_nil))) (blkOk_by (own := [("_law_here", 11)]) (N := N_is_stretch) (sc := defScope s_is_stretch) (by decide +kernel)) (fun _ _ _ _ _ => (pg_name (i := 11) nd rfl (Or.inl rfl))) (fun _ _ _ _ _ => (pts_one (pt_cmpR op_eq (pe_ix ix_str (pv 1) (pv 11) (fun _ _ => rfl)) (pv 7) (nomark _)))) (fun _ _ _ _ _ => (pv 11)))
  (pss_one (ps_expr (pe_bm PySem.F.plainAttrs_list PySem.F.slot_list_extend PySem.F.type_list_extend mt_extend (pv 8) (pa_cons (pe_lc (own := [("_law_here", 11)]) (g := (gName 11)) rfl nd (pi_list (pv 10)) (blkOk_by (own := [("_law_here", 11)]) (N := N_is_stretch) (sc := defScope s_is_stretch) (by decide +kernel)) (fun _ _ _ _ _ => (pg_name (i := 11) nd rfl (Or.inl rfl))) (fun _ _ _ _ _ => (pts_one (pt_val (pe_ix (r := rIxL K) ix_list (pe_ix (r := rIxL K) ix_list (pv 2) (pe_op op_add (pv 9) pe_int) (fun _ _ => rfl)) (pv 11) (fun _ _ => rfl))))) (fun _ _ _ _ _ => (pv 11))) pa_nil))))))
  (pss_one (ps_set (i := 6) nd rfl (by first | exact Or.inl rfl | exact Or.inr rfl) (SSI.pe_ssI (by rfl) T.m_sorted (by rfl) T.m_set (pv 8)))))))
  (pss_one (ps_if (pt_val (pe_callB (cr_any rfl) (by rfl) T.m_any (by decide +kernel) (pa_cons (pe_lc (own := [("_law_spot", 9)]) (g := (gName 9)) rfl nd (pi_list (pv 6)) (blkOk_by (own := [("_law_spot", 9)]) (N := N_is_stretch) (sc := defScope s_is_stretch) (by decide +kernel)) (fun _ _ _ _ _ => (pg_name (i := 9) nd rfl (Or.inl rfl))) (fun _ _ _ _ _ => pts_nil) (fun _ _ _ _ _ => (pe_ix (r := rIxL K) ix_list (pe_ix (r := rIxL K) ix_list (pv 2) (pe_op op_add (pv 9) pe_int) (fun _ _ => rfl)) (pv 4) (fun _ _ => rfl)))) pa_nil)))
    (pss_one (ps_ret pe_bl))
    pss_nil)))))
  (pss_one (ps_ret pe_bl))), ?_⟩
    have hzl : z.length = n := Array.length_toList.symm.trans hn
    have hzs : z.length ≤ sizeLine := RD.szo (by omega)
    have hlm : (zs.map V.str).length = zs.length := List.length_map ..
    have g12 := g.few
    walk_at "rds"
    refine RD.forW (walk_tup (xs := zs.map V.str)) (fun i σ H' => ∃ (x5 x6 x7 x8 x9 x10 x11 : Option V), σ = [some (.ref t), some (.str z), some (.ref m), some (.int (b : Int)), some (.int (e : Int)), x5, x6, x7, x8, x9, x10, x11] ∧ Same H H' ∧ ∀ p, p ∈ tls (zs.take i) → ¬ ∃ x, IK.Spots (tls zs) (tl z) b p x ∧ IL.I (tls zs) (tl z) x e)
      ⟨_, _, _, _, _, _, _, rfl, Same.refl _, fun p hp => absurd hp (by simp [tls])⟩ (fun i σ H' _ ⟨_, _, _, _, _, _, _, _, s, _⟩ => .inl (.inl (s _ _ ht))) (fun i v σ H2 H3 hi hp hy => ?_) (fun σ H2 hp => ?_)
    · obtain ⟨x5, x6, x7, x8, x9, x10, x11, rfl, s2, hno⟩ := hp
      obtain ⟨rfl, hx⟩ := hy
      rw [List.getElem?_map] at hx
      obtain ⟨y, hyj, rfl⟩ := Option.map_eq_some_iff.mp hx
      have hpy := piece_size (g.piece y (List.mem_of_getElem? hyj))
      have hyl : y.length ≤ sizeLine := RD.szo (by show y.cps.size ≤ _; omega)
      have hy1 : 0 < (tl y).length := by rw [show (tl y).length = y.cps.size from Array.length_toList]; omega
      obtain ⟨a1, hya⟩ : ∃ a1, (tl y)[0]? = some a1 := ⟨_, List.getElem?_eq_getElem hy1⟩
      obtain ⟨cb, hcb⟩ : ∃ cb, (tl z)[b]? = some cb := ⟨_, List.getElem?_eq_getElem (by omega)⟩
      have hM2 := hM.same s2
      walk_at "rds"
      refine ⟨fun σ' H' => ∃ (sp : Addr) (xs : List Nat), σ' = [some (.ref t), some (.str z), some (.ref m), some (.int (b : Int)), some (.int (e : Int)), some (.str y), some (.ref sp), x7, x8, x9, x10, x11] ∧ Same H3 H' ∧ H' sp = some (.lst (nV xs)) ∧ SpL (tls zs) (tl z) b e [a1] xs, ?_, fun σ1 H4 hm => ?_⟩
      · walk_at "rds"
        refine RD.ixS hyl (tl_at (k := 0) hya) ?_
        walk_at "rds"
        refine RD.ixS hzs (tl_at hcb) ?_
        walk_at "rds"
        refine RD.ite_d (fun he => ?_) (fun he => ?_)
        · have hac : a1 = cb := by simpa using he
          walk_at "rds"
          refine ⟨_, [b], rfl, hs, hv, by simp, fun h => ?_⟩
          rw [List.mem_singleton, IK.spots_one (by omega), hcb, hac]
          constructor
          · rintro rfl
            exact ⟨⟨rfl, rfl⟩, hbe⟩
          · rintro ⟨⟨h1, _⟩, _⟩
            omega
        · have hac : a1 ≠ cb := fun e => he (by rw [e])
          walk_at "rds"
          refine ⟨_, [], rfl, hs, hv, .nil, fun h => ?_⟩
          rw [IK.spots_one (by omega), hcb]
          exact ⟨fun h => (List.not_mem_nil h).elim, fun h => absurd (Option.some.inj h.1.2).symm hac⟩
      obtain ⟨sp, xs, rfl, s4, hsp, hxs⟩ := hm
      have hM4 := hM2.same s4
      walk_at "rds"
      refine RD.forW RB.w_str (fun k σ H' => ∃ (sp : Addr) (xs : List Nat) (x7 x8 x9 x10 x11 : Option V), σ = [some (.ref t), some (.str z), some (.ref m), some (.int (b : Int)), some (.int (e : Int)), some (.str y), some (.ref sp), x7, x8, x9, x10, x11] ∧ Same H3 H' ∧ H' sp = some (.lst (nV xs)) ∧ SpL (tls zs) (tl z) b e ((tl y).take (k + 1)) xs)
        ⟨sp, xs, _, _, _, _, _, rfl, s4, hsp, by rw [tl_one hya]; exact hxs⟩ (fun _ _ _ _ _ => trivial) (fun k v σ H5 H6 hk hp hy => ?_) (fun σ H5 hp => ?_)
      · clear s4 hsp hxs hM4
        obtain ⟨sp, xs, x7, x8, x9, x10, x11, rfl, s5, hsp, hxs⟩ := hp
        obtain ⟨rfl, hx⟩ := hy
        rw [List.getElem?_map] at hx
        obtain ⟨c, hc, rfl⟩ := Option.map_eq_some_iff.mp hx
        have hc1 : (tl y)[k + 1]? = some c := by
          have h1 : (tl (cutS y (some ((1 : Nat) : Int)) none))[k]? = some c := hc
          rw [tl_drop, List.getElem?_drop, Nat.add_comm] at h1
          exact h1
        have htk : (tl y).take (k + 1 + 1) = (tl y).take (k + 1) ++ [c] := by rw [List.take_add_one, hc1]; rfl
        have htn : (tl y).take (k + 1) ≠ [] := fun e => by
          have h2 : ((tl y).take (k + 1)).length = 0 := congrArg List.length e
          have h3 := (List.getElem?_eq_some_iff.mp hc1).1
          rw [List.length_take] at h2
          omega
        have hfew := hxs.few
        have hspH6 := hsp
        walk_at "rds"
        have hlp : H6 p' = none := hp
        have s67 := hs
        have hla : H' p' = some (.lst (nV [])) := hv
        clear hp hs hv hsp
        generalize p' = la at hlp hla
        generalize H' = H7 at s67 hla
        have hM6 := hM2.same s5
        have hsp7 := s67 _ _ hspH6
        walk_at "rds"
        refine RD.forW (walk_list (xs := nV xs)) (fun j σ H' => ∃ (ys : List Nat) (x9 x10 x11 : Option V), σ = [some (.ref t), some (.str z), some (.ref m), some (.int (b : Int)), some (.int (e : Int)), some (.str y), some (.ref sp), some (.str ⟨#[c]⟩), some (.ref la), x9, x10, x11] ∧ Same H6 H' ∧ H' la = some (.lst (nV ys)) ∧ ys.length ≤ j * 7 ∧ ∀ h, h ∈ ys ↔ ∃ s, s ∈ xs.take j ∧ s < h ∧ h < e ∧ (tl z)[h]? = some c ∧ IL.I (tls zs) (tl z) (s + 1) h)
          ⟨[], _, _, _, rfl, s67, hla, by simp, fun h => by simp⟩ (fun j σ H' _ ⟨_, _, _, _, _, s, _⟩ => .inl (.inl (s _ _ hspH6))) (fun j v σ H8 H9 hj hp hy => ?_) (fun σ H8 hp => ?_)
        · obtain ⟨ys, x9, x10, x11, rfl, s8, hla8, hyl8, hys⟩ := hp
          obtain ⟨rfl, hx⟩ := hy
          obtain ⟨s0, rfl, hs0⟩ := nV_at hx
          obtain ⟨l1, l2, l3⟩ := hxs.low (List.mem_of_getElem? hs0)
          have hM9 := hM6.same s8
          clear s67 hla hsp7
          walk_at "rds"
          refine RD.lcW (walk_range (lo := (s0 : Int) + 1) (n := Int.toNat ((e : Int) - ((s0 : Int) + 1)))) (by omega) fun D H10 hD s10 hv10 => ⟨fun i2 acc H' => Same H9 H' ∧ ∃ us, acc = nV us ∧ us.length ≤ i2 ∧ ∀ h, h ∈ us ↔ s0 < h ∧ h < s0 + 1 + i2 ∧ (tl z)[h]? = some c, ⟨s10, [], rfl, Nat.le_refl _, fun h => ⟨fun h => (List.not_mem_nil h).elim, fun h => by omega⟩⟩, fun _ _ _ _ _ => trivial, fun i2 v acc H11 H12 Z N hi2 hp hDa hy hZ hN => ?_, fun acc H11 hp hDa => ?_⟩
          · obtain ⟨s11, us, rfl, hul, hus⟩ := hp
            obtain ⟨rfl, rfl⟩ := hy
            have ek : (fun i : Nat => V.int ((s0 : Int) + 1 + (i : Int))) i2 = V.int ((s0 + 1 + i2 : Nat) : Int) := congrArg V.int (by omega)
            rw [ek]
            obtain ⟨c', hc'⟩ : ∃ c', (tl z)[s0 + 1 + i2]? = some c' := ⟨_, List.getElem?_eq_getElem (by omega)⟩
            walk_at "rds"
            refine ⟨rfl, ?_⟩
            walk_at "rds"
            refine RD.ixS hzs (tl_at hc') ?_
            walk_at "rds"
            refine RD.ite_d (fun he => ?_) (fun he => ?_)
            · have hac : c' = c := by simpa using he
              subst hac
              walk_at "rds"
              refine hZ _ _ hDa fun H13 k13 h13 => ⟨RD.same_mut k13 s11 hD, us ++ [s0 + 1 + i2], (nV_app us [s0 + 1 + i2]).symm, by rw [List.length_append, List.length_singleton]; omega, fun h => ?_⟩
              rw [List.mem_append, List.mem_singleton, hus]
              constructor
              · rintro (⟨a1, a2, a3⟩ | rfl)
                · exact ⟨a1, by omega, a3⟩
                · exact ⟨by omega, by omega, hc'⟩
              · rintro ⟨a1, a2, a3⟩
                rcases Nat.lt_or_ge h (s0 + 1 + i2) with h1 | h1
                · exact .inl ⟨a1, h1, a3⟩
                · exact .inr (by omega)
            · have hac : c' ≠ c := fun e => he (by rw [e])
              refine hN _ hDa ⟨s11, us, rfl, by omega, fun h => ?_⟩
              rw [hus]
              constructor
              · rintro ⟨a1, a2, a3⟩
                exact ⟨a1, by omega, a3⟩
              · rintro ⟨a1, a2, a3⟩
                rcases Nat.lt_or_ge h (s0 + 1 + i2) with h1 | h1
                · exact ⟨a1, h1, a3⟩
                · obtain rfl : h = s0 + 1 + i2 := by omega
                  rw [hc'] at a3
                  exact absurd (Option.some.inj a3) hac
          obtain ⟨s11, us, rfl, hul, hus⟩ := hp
          have hul7 : us.length ≤ 7 := by omega
          have hla11 := s11 _ _ hla8
          have hM11 := hM9.same s11
          obtain ⟨r, hr1, hr2⟩ := hM11.ref (i := s0 + 1) (by omega)
          walk_at "rds"
          refine RD.lcW (walk_list (xs := nV us)) (by rw [show (nV us).length = us.length from List.length_map ..]; omega) fun D2 H12 hD2 s12 hv12 => ⟨fun i2 acc H' => Same H11 H' ∧ ∃ ws, acc = nV ws ∧ ws.length ≤ i2 ∧ ∀ h, h ∈ ws ↔ h ∈ us.take i2 ∧ F (s0 + 1) h = true, ⟨s12, [], rfl, Nat.le_refl _, fun h => by simp⟩, fun i2 acc H' _ p => .inl (.inl (p.1 _ _ hDa)), fun i2 v acc H13 H14 Z N hi2 hp hDb hy hZ hN => ?_, fun acc H13 hp hDb => ?_⟩
          · obtain ⟨s13, ws, rfl, hwl, hws⟩ := hp
            obtain ⟨rfl, hx2⟩ := hy
            obtain ⟨h0, rfl, hh0⟩ := nV_at hx2
            obtain ⟨b1, b2, b3⟩ := (hus h0).mp (List.mem_of_getElem? hh0)
            have hhn : h0 ≤ n := by omega
            have hm13 := s13 _ _ hM11.here
            have hr13 := s13 _ _ hr2
            walk_at "rds"
            refine ⟨rfl, ?_⟩
            walk_at "rds"
            refine RD.ixL (.inl (.inl hm13)) (at_nat (n := s0 + 1) hr1) ?_
            walk_at "rds"
            refine RD.ixL (.inl (.inl hr13)) (at_nat (n := h0) (row_at hhn)) ?_
            walk_at "rds"
            refine RD.ite_b (fun he => ?_) (fun he => ?_)
            · walk_at "rds"
              refine hZ _ _ hDb fun H15 k15 h15 => ⟨RD.same_mut k15 s13 hD2, ws ++ [h0], (nV_app ws [h0]).symm, by rw [List.length_append, List.length_singleton]; omega, fun h => ?_⟩
              rw [List.mem_append, List.mem_singleton, hws, List.take_add_one, hh0, List.mem_append]
              constructor
              · rintro (⟨a1, a2⟩ | rfl)
                · exact ⟨.inl a1, a2⟩
                · exact ⟨.inr (by simp), he⟩
              · rintro ⟨a1 | a1, a2⟩
                · exact .inl ⟨a1, a2⟩
                · exact .inr (by simpa using a1)
            · refine hN _ hDb ⟨s13, ws, rfl, by omega, fun h => ?_⟩
              rw [hws, List.take_add_one, hh0, List.mem_append]
              constructor
              · rintro ⟨a1, a2⟩
                exact ⟨.inl a1, a2⟩
              · rintro ⟨a1 | a1, a2⟩
                · exact ⟨a1, a2⟩
                · have : h = h0 := by simpa using a1
                  rw [this, he] at a2
                  cases a2
          obtain ⟨s13, ws, rfl, hwl, hws⟩ := hp
          rw [show (nV us).length = us.length from List.length_map .., List.take_length] at hws
          rw [show (nV us).length = us.length from List.length_map ..] at hwl
          have hla13 := s13 _ _ hla11
          have lnV : ∀ l : List Nat, (nV l).length = l.length := fun l => List.length_map ..
          have hj8 : j < xs.length := (List.getElem?_eq_some_iff.mp hs0).1
          walk_at "rds"
          refine RB.ext hla13 hDb (RD.szo (by rw [lnV, lnV]; omega)) fun H15 k15 h15 => ?_
          rw [← nV_app] at h15
          refine ⟨ys ++ ws, _, _, _, rfl, RD.same_mut k15 (s8.trans (s11.trans s13)) hlp, h15, by rw [List.length_append]; omega, fun h => ?_⟩
          rw [List.mem_append, hys, hws, List.take_add_one, hs0]
          constructor
          · rintro (⟨s, a1, a2, a3, a4, a5⟩ | ⟨a1, a2⟩)
            · exact ⟨s, List.mem_append_left _ a1, a2, a3, a4, a5⟩
            · obtain ⟨c1, c2, c3⟩ := (hus h).mp a1
              exact ⟨s0, List.mem_append_right _ (by simp), c1, by omega, c3, (hF (s0 + 1) h (by omega) (by omega) (by omega) (by omega)).mp a2⟩
          · rintro ⟨s, a1, a2, a3, a4, a5⟩
            rcases List.mem_append.mp a1 with a1 | a1
            · exact .inl ⟨s, a1, a2, a3, a4, a5⟩
            · obtain rfl : s = s0 := by simpa using a1
              exact .inr ⟨(hus h).mpr ⟨a2, by omega, a4⟩, (hF (s + 1) h (by omega) (by omega) (by omega) (by omega)).mpr a5⟩
        · obtain ⟨ys, x9, x10, x11, rfl, s8, hla8, hyl8, hys⟩ := hp
          rw [show (nV xs).length = xs.length from List.length_map .., List.take_length] at hys
          rw [show (nV xs).length = xs.length from List.length_map ..] at hyl8
          dsimp only
          walk_at "rds"
          refine SSI.ssI ?_
          walk_at "rds"
          refine ⟨la, ys.map fun n : Nat => (n : Int), rfl, .inl (.inl (by rw [← nV_ints]; exact hla8)), by rw [List.length_map]; omega, fun zs2 p2 hz1 hz2 hp2 => ?_⟩
          obtain ⟨es, rfl⟩ := nat_list zs2 fun y hy => by
            obtain ⟨n, _, rfl⟩ := List.mem_map.mp ((hz2 y).mp hy)
            exact Int.natCast_nonneg n
          have hes : es.Pairwise (· < ·) := (List.pairwise_map.mp hz1).imp fun h => by omega
          have hmem : ∀ h, h ∈ es ↔ h ∈ ys := fun h => by
            constructor
            · intro hh
              obtain ⟨n, hn1, hn2⟩ := List.mem_map.mp ((hz2 (h : Int)).mp (List.mem_map.mpr ⟨h, hh, rfl⟩))
              obtain rfl : n = h := by omega
              exact hn1
            · intro hh
              obtain ⟨n, hn1, hn2⟩ := List.mem_map.mp ((hz2 (h : Int)).mpr (List.mem_map.mpr ⟨h, hh, rfl⟩))
              obtain rfl : n = h := by omega
              exact hn1
          walk_at "rds"
          refine ⟨p2, es, _, _, _, _, _, rfl, (s5.trans s8).trans (RD.same_new hp2), by rw [nV_ints]; exact upd_same, ?_⟩
          rw [htk]
          exact hxs.step htn hes fun h => (hmem h).trans (hys h)
      · obtain ⟨sp, xs, x7, x8, x9, x10, x11, rfl, s5, hsp, hxs⟩ := hp
        have hym : (tl y).take ((cutS y (some 1) none).cps.size + 1) = tl y := by
          refine List.take_of_length_le ?_
          have := congrArg List.length (tl_drop y 1)
          rw [List.length_drop, show (tl (cutS y (some ((1 : Nat) : Int)) none)).length = (cutS y (some 1) none).cps.size from Array.length_toList] at this
          omega
        have hM5 := hM2.same s5
        have lnV : ∀ l : List Nat, (nV l).length = l.length := fun l => List.length_map ..
        have hfew := hxs.few
        dsimp only
        walk_at "rds"
        refine RD.lcF (walk_list (xs := nV xs)) (by rw [lnV]; omega) (fun i => xs[i]?.map fun h => V.bl (F (h + 1) e)) (fun H' s => .inl (.inl (s _ _ hsp))) (fun i x H' Z N hi hx s hZ hN => ?_) (fun D H' hD s hv => ?_)
        · obtain ⟨s0, rfl, hs0⟩ := nV_at hx
          obtain ⟨l1, l2, l3⟩ := hxs.low (List.mem_of_getElem? hs0)
          obtain ⟨r, hr1, hr2⟩ := hM5.ref (i := s0 + 1) (by omega)
          have hm13 := s _ _ hM5.here
          have hr13 := s _ _ hr2
          walk_at "rds"
          refine ⟨rfl, ?_⟩
          walk_at "rds"
          refine RD.ixL (.inl (.inl hm13)) (at_nat (n := s0 + 1) hr1) ?_
          walk_at "rds"
          refine RD.ixL (.inl (.inl hr13)) (at_nat (n := e) (row_at hen)) ?_
          exact hZ _ _ (by rw [hs0]; rfl) (Same.refl _)
        · have eB : (List.range (nV xs).length).filterMap (fun i => xs[i]?.map fun h => V.bl (F (h + 1) e)) = (xs.map fun h => F (h + 1) e).map V.bl := by
            rw [lnV, RD.range_get (fun h => V.bl (F (h + 1) e)) xs, List.map_map]
            rfl
          rw [eB] at hv
          walk_at "rds"
          rw [hym] at hxs
          have s25 := s2.trans (s5.trans s)
          have hyz : tl y ∈ tls zs := List.mem_map.mpr ⟨y, List.mem_of_getElem? hyj, rfl⟩
          refine RD.ite_b (fun ha => ?_) (fun ha => ?_)
          · walk_at "rds"
            refine q true _ ⟨fun _ => ?_, fun _ => rfl⟩ s25
            rw [List.any_map] at ha
            obtain ⟨h, hh, hFh⟩ := List.any_eq_true.mp ha
            have hFh : F (h + 1) e = true := hFh
            obtain ⟨l1, l2, l3⟩ := hxs.low hh
            exact (IK.ends_of (by omega) (tls_ne0 g)).mpr (.inr ⟨tl y, hyz, h + 1, ((hxs.mem h).mp hh).1, (hF (h + 1) e (by omega) (by omega) (by omega) (by omega)).mp hFh⟩)
          · walk_at "rds"
            refine ⟨_, _, _, _, _, _, _, rfl, s25, fun p hp => ?_⟩
            have etk : zs.take (i + 1) = zs.take i ++ [y] := by rw [List.take_add_one, hyj]; rfl
            rw [etk] at hp
            have hp : p ∈ tls (zs.take i) ++ [tl y] := by
              have e9 : tls (zs.take i ++ [y]) = tls (zs.take i) ++ [tl y] := List.map_append ..
              rw [← e9]
              exact hp
            rcases List.mem_append.mp hp with hp | hp
            · exact hno p hp
            · obtain rfl : p = tl y := by simpa using hp
              rintro ⟨x, hx1, hx2⟩
              have hxl := IK.spots_le hx1
              have hxe := hx2.1
              obtain ⟨h, rfl⟩ : ∃ h, x = h + 1 := ⟨x - 1, by omega⟩
              have hh := (hxs.mem h).mpr ⟨hx1, by omega⟩
              have hFh := (hF (h + 1) e (by omega) (by omega) (by omega) (by omega)).mpr hx2
              have : (xs.map fun h => F (h + 1) e).any id = true := by
                rw [List.any_map]
                exact List.any_eq_true.mpr ⟨h, hh, hFh⟩
              rw [this] at ha
              cases ha
    · obtain ⟨x5, x6, x7, x8, x9, x10, x11, rfl, s2, hno⟩ := hp
      walk_at "rds"
      refine q false _ ⟨fun h => (nomatch h), fun h => ?_⟩ s2
      rcases (IK.ends_of (by omega) (tls_ne0 g)).mp h with h | ⟨p, hp, hx⟩
      · omega
      · rw [hlm, List.take_length] at hno
        exact absurd hx (hno p hp)
end


end K27

namespace K27
open PySem PySem.Spec PyProof.Rows L2
local macro_rules | `(tactic| walk_at "kd") => `(tactic| first | assumption | exact SPD.KdOf.int _ | exact SPD.KdOf.str _ | exact SPD.KdOf.bl _ | exact SPD.KdOf.non | exact SPD.KdOf.same (by assumption) (by walk_at "kd") | exact SPD.KdOf.tup (by walk_at "hp") | exact SPD.KdOf.lst (by walk_at "hp") | fail "no")
local macro_rules | `(tactic| walk_at "ne") => `(tactic| first | assumption | exact Ne.symm (by assumption) | fail "no")
local macro_rules | `(tactic| walk_at "hp") => `(tactic| first | assumption | exact RD.at_same (by assumption) (by walk_at "hp") | exact RD.at_kb (by assumption) (by walk_at "ne") (by walk_at "hp") | fail "no")
local macro_rules | `(tactic| walk_at "sq") => `(tactic| first | assumption | exact Or.inl (Or.inl (by walk_at "hp")) | exact Same.seq (by assumption) (by walk_at "sq") | exact RD.KB.seq (by assumption) (by walk_at "ne") (by walk_at "sq") | fail "no")
local macro_rules | `(tactic| walk_at "st") => `(tactic| first | assumption | exact Or.inl (Or.inl (by walk_at "hp")) | exact RD.Same.tup (by assumption) (by walk_at "st") | exact RD.KB.tup (by assumption) (by walk_at "ne") (by walk_at "st") | fail "no")
local macro_rules | `(tactic| walk_at "rd") => `(tactic| first
  | with_reducible refine RD.c ?_
  | ((with_reducible refine' RD.var ?rdE ?rdK); (case rdE => exact rfl))
  | with_reducible refine RD.op ?_
  | with_reducible refine RD.un ?_
  | with_reducible refine RD.nil ?_
  | with_reducible refine RD.cons ?_
  | with_reducible refine RD.cb ?_
  | with_reducible refine RD.call ?_
  | with_reducible refine RD.test ?_
  | with_reducible refine RD.tb' ?_
  | with_reducible refine RD.bl ?_
  | with_reducible refine RD.and' ?_
  | with_reducible refine RD.or' ?_
  | with_reducible refine RD.not' ?_
  | with_reducible refine RD.andV ?_
  | with_reducible refine RD.orV ?_
  | with_reducible refine RD.notV ?_
  | with_reducible refine RD.ife ?_
  | with_reducible refine RD.sl ?_
  | with_reducible refine RD.part ?_
  | with_reducible refine RD.noPart ?_
  | with_reducible refine RD.partI ?_
  | with_reducible refine RD.rd0 ?_
  | with_reducible refine RD.rdU ?_
  | ((with_reducible refine' RD.rdEq ?rdE ?rdK); (case rdE => rfl))
  | ((with_reducible refine' RD.rdNe ?rdE ?rdK); (case rdE => rfl))
  | ((with_reducible refine' RD.ixL ?rdH ?rdE ?rdK); (case rdH => walk_at "sq"); (case rdE => first | rfl | assumption))
  | ((with_reducible refine' RD.rdI ?rdC ?rdK); (case rdC => first | assumption | (show (0 : Int) < _; first | decide | omega) | exact ⟨by decide, by decide⟩ | exact ⟨by assumption, by assumption⟩ | exact .inr ⟨by decide, by decide⟩ | exact .inl ⟨by decide, by decide⟩ | exact ⟨by decide, by decide, by decide⟩ | exact .inl ⟨by omega, by omega⟩))
  | ((with_reducible refine' RD.setL ?rdH ?rdE ?rdK); (case rdH => walk_at "hp"); (case rdE => rfl); intro $(Lean.mkIdent `H'):ident $(Lean.mkIdent `hk):ident $(Lean.mkIdent `hv):ident)
  | ((with_reducible refine' RD.irng1V ?rdA ?rdB ?rdK); (case rdA => first | decide | omega); (case rdB => first | decide | omega))
  | with_reducible refine RD.int1 ?_
  | with_reducible refine RD.abs1 ?_
  | ((with_reducible refine' RD.len ?rdH ?rdK); (case rdH => first | exact Or.inl (by walk_at "sq") | exact Or.inr (by walk_at "st")))
  | with_reducible refine RD.tup ?_
  | with_reducible refine RD.lst ?_
  | with_reducible refine RD.ite1 ?_
  | with_reducible refine RD.ite0 ?_
  | with_reducible refine RD.ite1n ?_
  | with_reducible refine RD.ite0n ?_
  | with_reducible refine RD.seq ?_
  | with_reducible refine RD.asg ?_
  | with_reducible refine RD.name ?_
  | with_reducible refine RD.ret ?_
  | with_reducible refine RD.drop ?_
  | with_reducible refine RD.next ?_
  | with_reducible refine RD.ifs ?_
  | with_reducible refine RD.par ?_
  | with_reducible refine RD.par2 ?_
  | with_reducible refine RD.sub ?_
  | with_reducible refine RD.gcons ?_
  | with_reducible refine RD.gnil ?_
  | with_reducible refine RD.bm ?_
  | ((with_reducible refine' RD.bmL ?rdH ?rdK); (case rdH => walk_at "sq"))
  | ((with_reducible refine' RD.newZ ?rdH ?rdK); (case rdH => exact RD.sz _); intro $(Lean.mkIdent `p'):ident $(Lean.mkIdent `H'):ident $(Lean.mkIdent `hp):ident $(Lean.mkIdent `hs):ident $(Lean.mkIdent `hv):ident; (try have $(Lean.mkIdent `hn):ident := hand_ne $(Lean.mkIdent `hp):ident (by walk_at "hk")))
  | with_reducible refine RD.fors ?_
  | with_reducible refine RD.lc ?_
  | with_reducible refine RD.yes ?_
  | with_reducible refine RD.ilist ?_
  | ((with_reducible refine' RD.ilistV ?rdH ?rdK); (case rdH => walk_at "sq"))
  | with_reducible refine RD.itup ?_
  | ((with_reducible refine' RD.itupV ?rdH ?rdK); (case rdH => walk_at "st"))
  | with_reducible refine RD.irng1 ?_
  | with_reducible refine RD.irng2 ?_
  | ((with_reducible refine' RD.irng2V ?rdA ?rdK); (case rdA => first | decide | omega))
  | with_reducible refine RD.ienum ?_
  | ((with_reducible refine' RD.ienumV ?rdH ?rdK); (case rdH => walk_at "sq"))
  | with_reducible refine RD.izip ?_
  | ((with_reducible refine' RD.izipV ?rdH ?rdE ?rdK); (case rdH => walk_at "sq"); (case rdE => walk_at "sq"))
  | with_reducible refine SPD.izipA ?_
  | with_reducible refine RD.istr ?_
  | with_reducible refine RD.istrV ?_
  | ((with_reducible refine' RD.slL ?rdH ?rdK); (case rdH => walk_at "sq"); intro $(Lean.mkIdent `p'):ident $(Lean.mkIdent `H'):ident $(Lean.mkIdent `hp):ident $(Lean.mkIdent `hs):ident $(Lean.mkIdent `hv):ident; (try have $(Lean.mkIdent `hn):ident := hand_ne $(Lean.mkIdent `hp):ident (by walk_at "hk")))
  | ((with_reducible refine' RD.cat ?rdH ?rdE ?rdZ ?rdK); (case rdH => walk_at "hp"); (case rdE => walk_at "hp"); (case rdZ => exact RD.sz _); intro $(Lean.mkIdent `p'):ident $(Lean.mkIdent `H'):ident $(Lean.mkIdent `hp):ident $(Lean.mkIdent `hs):ident $(Lean.mkIdent `hv):ident; (try have $(Lean.mkIdent `hn):ident := hand_ne $(Lean.mkIdent `hp):ident (by walk_at "hk")))
  | ((with_reducible refine' RD.gtup ?rdH ?rdE ?rdK); (case rdH => walk_at "st"); (case rdE => rfl))
  | ((with_reducible refine' RD.app ?rdH ?rdZ ?rdK); (case rdH => walk_at "hp"); (case rdZ => first | assumption | (apply RD.szl; omega)); intro $(Lean.mkIdent `H'):ident $(Lean.mkIdent `hk):ident $(Lean.mkIdent `hv):ident)
  | ((with_reducible refine' RD.all1 ?rdH ?rdK); (case rdH => walk_at "sq"))
  | ((with_reducible refine' RD.any1 ?rdH ?rdK); (case rdH => walk_at "sq"))
  | ((with_reducible refine' SPD.dnew ?rdK); intro $(Lean.mkIdent `p'):ident $(Lean.mkIdent `H'):ident $(Lean.mkIdent `hp):ident $(Lean.mkIdent `hs):ident $(Lean.mkIdent `hv):ident; (try have $(Lean.mkIdent `hn):ident := hand_ne $(Lean.mkIdent `hp):ident (by walk_at "hk")))
  | ((with_reducible refine' SPD.disp1 ?rdK); intro $(Lean.mkIdent `p'):ident $(Lean.mkIdent `H'):ident $(Lean.mkIdent `hp):ident $(Lean.mkIdent `hs):ident $(Lean.mkIdent `hv):ident; (try have $(Lean.mkIdent `hn):ident := hand_ne $(Lean.mkIdent `hp):ident (by walk_at "hk")))
  | ((with_reducible refine' SPD.isSeq ?rdH ?rdE ?rdK); (case rdH => walk_at "hp"); (case rdE => walk_at "kd"))
  | ((with_reducible refine' SPD.isTup ?rdE ?rdK); (case rdE => walk_at "kd"))
  | ((with_reducible refine' SPD.isLst ?rdE ?rdK); (case rdE => walk_at "kd"))
  | ((with_reducible refine' SPD.isBool ?rdE ?rdK); (case rdE => walk_at "kd"))
  | ((with_reducible refine' SPD.isStr ?rdE ?rdK); (case rdE => walk_at "kd"))
  | ((with_reducible refine' SPD.isInt ?rdE ?rdK); (case rdE => walk_at "kd"))
  | dsimp only)
local macro_rules | `(tactic| walk_at "rds") => `(tactic| repeat walk_at "rd")
local macro_rules | `(tactic| walk_at "sm") => `(tactic| first | assumption | exact Same.refl _ | exact RD.sm_tr (by assumption) (by walk_at "sm") | fail "no")
local macro_rules | `(tactic| walk_at "kb") => `(tactic| first | assumption | exact RD.KB.refl | exact RD.kb_tr (by assumption) (by walk_at "kb") | exact RD.kb_trs (by assumption) (by walk_at "kb") | fail "no")
local macro_rules | `(tactic| walk_at "fr") => `(tactic| first | assumption | exact RD.fr_of (by assumption) (by walk_at "sm") | fail "no")
local macro_rules | `(tactic| walk_at "hk") => `(tactic| first | assumption | exact hand_same (by assumption) (by walk_at "hk") | exact hand_kb (by assumption) (by walk_at "fr") (by walk_at "hk") | fail "no")
local macro_rules | `(tactic| walk_at "na") => `(tactic| first | assumption | exact hand_ne (by assumption) (by walk_at "hk") | fail "no")
local macro_rules | `(tactic| walk_at "dqa") => `(tactic| first | exact SPD.DqA.nil | exact SPD.DqA.cons (by walk_at "dq") (by walk_at "dqa") | exact SPD.DqA.app (by walk_at "dqa") (by walk_at "dqa") | fail "no")
local macro_rules | `(tactic| walk_at "dq") => `(tactic| first | assumption | exact SPD.Dq.leaf rfl | exact SPD.dq_kb (by assumption) (by walk_at "kb") | exact SPD.dqTup (by walk_at "hp") (by walk_at "na") (by walk_at "dqa") | exact SPD.dqLst (by walk_at "hp") (by walk_at "na") (by walk_at "dqa") | exact SPD.dqNil (by walk_at "hp") (by walk_at "na") (by first | decide | simp) (by first | decide | simp) | fail "no")

local macro_rules | `(tactic| walk_at "rd") => `(tactic| first
  | with_reducible refine RB.chain ?_
  | with_reducible refine RB.m1 ?_
  | with_reducible refine RB.strE ?_
  | with_reducible refine RB.fld ?_
  | with_reducible refine RB.setF ?_
  | with_reducible refine RB.ss ?_
  | with_reducible refine RB.rev ?_
  | with_reducible refine RB.make ?_
  | with_reducible refine RB.makeS ?_
  | with_reducible refine RB.mkO ?_
  | with_reducible refine NR.ienumT ?_
  | with_reducible refine RB.inS ?_
  | with_reducible refine RB.bmS ?_
  | with_reducible refine RB.callS ?_
  | with_reducible refine RB.sw3 ?_
  | with_reducible refine RB.par3 ?_
  | with_reducible refine RB.par3V ?_
  | ((with_reducible refine' RB.slS ?rdH ?rdK); (case rdH => walk_at "sz"))
  | with_reducible refine RB.xf ?_
  | ((with_reducible refine' RB.xfV ?rdH ?rdE ?rdK); (case rdH => walk_at "hp"); (case rdE => rfl))
  | ((with_reducible refine' NR.ienumTV ?rdH ?rdK); (case rdH => walk_at "st"))
  | ((with_reducible refine' RB.lenL ?rdH ?rdK); (case rdH => walk_at "sq"))
  | ((with_reducible refine' RB.lenT ?rdH ?rdK); (case rdH => walk_at "st"))
  | ((with_reducible refine' RB.lenS ?rdH ?rdK); (case rdH => walk_at "sz"))
  | ((with_reducible refine' RD.lenS ?rdH ?rdK); (case rdH => walk_at "sz"))
  | ((with_reducible refine' RB.slT ?rdH ?rdK); (case rdH => walk_at "hp"); intro $(Lean.mkIdent `p'):ident $(Lean.mkIdent `H'):ident $(Lean.mkIdent `hs):ident $(Lean.mkIdent `hv):ident $(Lean.mkIdent `hp):ident; (try have $(Lean.mkIdent `hn):ident := two_ne $(Lean.mkIdent `hp):ident (by walk_at "na") (by walk_at "hk")))
  | ((with_reducible refine' RB.revV ?rdH ?rdK); (case rdH => walk_at "st"); intro $(Lean.mkIdent `p'):ident $(Lean.mkIdent `H'):ident $(Lean.mkIdent `hp):ident $(Lean.mkIdent `hs):ident $(Lean.mkIdent `hv):ident; (try have $(Lean.mkIdent `hn):ident := hand_ne $(Lean.mkIdent `hp):ident (by walk_at "hk")))
  | ((with_reducible refine' RB.listS ?rdH ?rdK); (case rdH => walk_at "sz"); intro $(Lean.mkIdent `p'):ident $(Lean.mkIdent `H'):ident $(Lean.mkIdent `hp):ident $(Lean.mkIdent `hs):ident $(Lean.mkIdent `hv):ident; (try have $(Lean.mkIdent `hn):ident := hand_ne $(Lean.mkIdent `hp):ident (by walk_at "hk")))
  | ((with_reducible refine' RB.listO ?rdH ?rdK); (case rdH => first | exact Or.inl (by walk_at "sq") | exact Or.inr (by walk_at "st")); intro $(Lean.mkIdent `p'):ident $(Lean.mkIdent `H'):ident $(Lean.mkIdent `hp):ident $(Lean.mkIdent `hs):ident $(Lean.mkIdent `hv):ident; (try have $(Lean.mkIdent `hn):ident := hand_ne $(Lean.mkIdent `hp):ident (by walk_at "hk")))
  | ((with_reducible refine' RB.tupL ?rdH ?rdK); (case rdH => walk_at "sq"); intro $(Lean.mkIdent `p'):ident $(Lean.mkIdent `H'):ident $(Lean.mkIdent `hp):ident $(Lean.mkIdent `hs):ident $(Lean.mkIdent `hv):ident; (try have $(Lean.mkIdent `hn):ident := hand_ne $(Lean.mkIdent `hp):ident (by walk_at "hk")))
  | ((with_reducible refine' RB.catT ?rdH ?rdE ?rdZ ?rdK); (case rdH => walk_at "hp"); (case rdE => walk_at "hp"); (case rdZ => exact RB.LN.sum (by walk_at "ln") (by walk_at "ln") rfl); intro $(Lean.mkIdent `p'):ident $(Lean.mkIdent `H'):ident $(Lean.mkIdent `hs):ident $(Lean.mkIdent `hv):ident $(Lean.mkIdent `hp):ident; (try have $(Lean.mkIdent `hn):ident := three_ne $(Lean.mkIdent `hp):ident (by walk_at "na") (by walk_at "na") (by walk_at "hk")))
  | fail "no")
local macro_rules | `(tactic| walk_at "ln") => `(tactic| first | with_reducible assumption | exact RB.LN.cut (by walk_at "ln") | exact RB.LN.app (by walk_at "ln") (by walk_at "ln") | exact RB.LN.rev (by walk_at "ln") | exact RB.LN.rep (by walk_at "ln") | exact RB.LN.lit rfl | fail "no")
local macro_rules | `(tactic| walk_at "sz") => `(tactic| first | assumption | exact RD.sz _ | fail "no")

local macro_rules | `(tactic| walk_at "dk") => `(tactic| first | exact FR.rd_of (by walk_at "hp") | exact Or.inr ⟨_, by walk_at "hp"⟩ | fail "no")
local macro_rules | `(tactic| walk_at "rd") => `(tactic| first
  | with_reducible refine FR.dget ?_
  | with_reducible refine FR.din ?_
  | with_reducible refine FR.dnotin ?_
  | with_reducible refine FR.dc ?_
  | with_reducible refine FR.ikeys ?_
  | with_reducible refine FR.ivals ?_
  | with_reducible refine FR.bm0 ?_
  | ((with_reducible refine' FR.dinS ?rdH ?rdK); (case rdH => walk_at "dk"))
  | ((with_reducible refine' FR.keysV ?rdH ?rdK); (case rdH => walk_at "hp"))
  | ((with_reducible refine' FR.valsV ?rdH ?rdK); (case rdH => walk_at "hp"))
  | ((with_reducible refine' FR.bmD ?rdH ?rdK); (case rdH => walk_at "hp"))
  | with_reducible refine FR.ckw ?_
  | with_reducible refine FR.dget2 ?_
  | ((with_reducible refine' FR.isdV ?rdH ?rdK); (case rdH => walk_at "dk"))
  | ((with_reducible refine' FR.dg2S ?rdH ?rdK); (case rdH => walk_at "dk"))
  | ((with_reducible refine' FR.lenD ?rdH ?rdK); (case rdH => walk_at "hp"))
  | fail "no")

local macro_rules | `(tactic| walk_at "rd") => `(tactic| first
  | with_reducible refine BH.iitems ?_
  | with_reducible refine BH.revl ?_
  | ((with_reducible refine' BH.dg2I ?rdH ?rdK); (case rdH => walk_at "dk"))
  | ((with_reducible refine' BH.catN ?rdH ?rdE ?rdZ ?rdK); (case rdH => walk_at "hp"); (case rdE => walk_at "hp"); (case rdZ => assumption); intro $(Lean.mkIdent `p'):ident $(Lean.mkIdent `H'):ident $(Lean.mkIdent `hs):ident $(Lean.mkIdent `hv):ident)
  | fail "no")

/-! ### the law's table of idle stretches -/
def setF (F : Nat → Nat → Bool) (b e : Nat) (r : Bool) : Nat → Nat → Bool := fun i j => if i = b ∧ j = e then r else F i j
theorem row_set {n b e : Nat} {F : Nat → Nat → Bool} {r : Bool} (he : e ≤ n) : ((List.range (n + 1)).map fun j => V.bl (F b j)).set e (V.bl r) = (List.range (n + 1)).map fun j => V.bl (setF F b e r b j) := by
  apply List.ext_getElem?
  intro k
  rw [List.getElem?_set, List.getElem?_map, List.getElem?_map, List.length_map, List.length_range]
  by_cases hk : e = k
  · subst hk
    rw [if_pos rfl, if_pos (by omega), List.getElem?_range (by omega)]
    show _ = some (V.bl (setF F b e r b e))
    unfold setF
    rw [if_pos ⟨rfl, rfl⟩]
  · rw [if_neg hk]
    rcases Nat.lt_or_ge k (n + 1) with h | h
    · rw [List.getElem?_range h]
      show some (V.bl (F b k)) = some (V.bl (setF F b e r b k))
      unfold setF
      rw [if_neg (fun z => hk z.2.symm)]
    · rw [List.getElem?_eq_none (by rw [List.length_range]; exact h)]
      rfl
theorem TabAt.set {H H' : Hp} {m : Addr} {n b e : Nat} {F : Nat → Nat → Bool} {rs : List Addr} {r : Bool} {a : Addr} (h : TabAt H m n F rs) (ha : rs[b]? = some a) (he : e ≤ n) (k : RD.KB a H H') (hv : H' a = some (.lst (((List.range (n + 1)).map fun j => V.bl (F b j)).set e (V.bl r)))) (hm : m ≠ a) : TabAt H' m n (setF F b e r) rs := by
  refine ⟨k _ _ hm h.here, h.len, h.once, fun i r' hr => ?_⟩
  by_cases hi : i = b
  · subst hi
    rw [ha] at hr
    cases hr
    rw [hv, row_set he]
  · have hne : r' ≠ a := fun e2 => by
      subst e2
      exact hi ((List.getElem?_inj (List.getElem?_eq_some_iff.mp hr).1 h.once).mp (hr.trans ha.symm))
    rw [k _ _ hne (h.row i r' hr)]
    congr 2
    apply List.map_congr_left
    intro j _
    unfold setF
    rw [if_neg (fun z => hi z.1)]
theorem idle_self {ps : List (List Nat)} {L : List Nat} {i : Nat} (hi : i ≤ L.length) : IL.I ps L i i := ⟨Nat.le_refl _, hi, by rw [IL.st_self]; exact IL.S.nil⟩
def spIdleEndsL : Sp := fun vs H Q _ => ∃ (t : Addr) (zs : List Str) (z : Str) (n : Nat), vs = [.ref t, .str z] ∧ H t = some (.tup (zs.map V.str)) ∧ Good zs ∧ (tl z).length = n ∧ n ≤ 8 ∧
  ∀ m F rs H', Same H H' → TabAt H' m n F rs → (∀ i j, i ≤ j → j ≤ n → (F i j = true ↔ IL.I (tls zs) (tl z) i j)) → Q (.ref m) H'
def spIdleL : Sp := fun vs H Q _ => ∃ (t : Addr) (zs : List Str) (z : Str), vs = [.ref t, .str z] ∧ H t = some (.tup (zs.map V.str)) ∧ Good zs ∧ (tl z).length ≤ 8 ∧ ∀ H', Same H H' → Q (.bl (idD zs z)) H'
section
variable {P : Program} {w : World} {K : PySem.W.Frag} {mg : Str → Option Value} {base : Heap}
theorem ok_idle_ends (T : Txt P K mg) : FnOk P w K mg base CX0 2 T.a_idle_ends T.fd_idle_ends ["_law_pieces", "_law_log"] spIdleEndsL := by
  have nd := sc_idle_ends.nd
  have G_is_stretch : FnOk P w K mg base CX0 1 T.a_is_stretch T.fd_is_stretch ["_law_pieces", "_law_log", "_law_is_idle_here", "_law_begin", "_law_end"] spStretch := ok_is_stretch T
  refine T.F_idle_ends.ok sc_idle_ends (fun vs H Q E h => ?_) (fun cdv A outer s H vs Q E hr h => ?_)
  · obtain ⟨t, zs, z, n, rfl, _⟩ := h
    rfl
  · obtain ⟨t, zs, z, n, rfl, ht, g, hn, hn8, q⟩ := h
    refine ⟨_, (pss_cons (ps_set (i := 2) nd rfl (by first | exact Or.inl rfl | exact Or.inr rfl) (pe_callB call_len_str (by rfl) T.m_len PySem.boot_len (pa_cons (pv 1) pa_nil)))
  (pss_cons (ps_setLc (i := 3) (own := [("_law_one", 6)]) (g := (gName 6)) rfl nd rfl rfl (sw_true rfl rfl rfl (by decide +kernel)) (pi_range1 (by rfl) T.m_range (pa_cons (pe_op op_add (pv 2) pe_int) pa_nil)) (blkOk_by (own := [("_law_one", 6)]) (N := N_idle_ends) (sc := defScope s_idle_ends) (by decide +kernel)) (fun _ _ _ _ _ => (pg_name (i := 6) nd rfl (Or.inr rfl))) (fun _ _ _ _ _ => pts_nil) (fun _ _ _ _ _ => (pe_lc (own := [("_law_other_here", 7)]) (g := (gName 7)) rfl nd (pi_range1 (by rfl) T.m_range (pa_cons (pe_op op_add (pv 2) pe_int) pa_nil)) (blkOk_by (own := [("_law_other_here", 7)]) (N := N_idle_ends) (sc := { kind := .function, names := [(".0", .local), ("_law_one", .cell), ("range", .globalImplicit), ("_law_many", .cell)], isGenerator := false, isCoroutine := false }) (by decide +kernel)) (fun _ _ _ _ _ => (pg_name (i := 7) nd rfl (Or.inl rfl))) (fun _ _ _ _ _ => pts_nil) (fun _ _ _ _ _ => (pe_cmpR op_eq (pv 6) (pv 7) (nomark _))))))
  (pss_cons (ps_for PassesOwn.never rfl (pi_range2 (by rfl) T.m_range (pa_cons pe_int (pa_cons (pe_op op_add (pv 2) pe_int) pa_nil))) (pg_name (i := 4) nd rfl (by first | exact Or.inl rfl | exact Or.inr rfl))
    (pss_one (ps_for PassesOwn.never rfl (pi_range1 (by rfl) T.m_range (pa_cons (pe_op op_add (pe_op op_sub (pv 2) (pv 4)) pe_int) pa_nil)) (pg_name (i := 5) nd rfl (by first | exact Or.inl rfl | exact Or.inr rfl))
    (pss_one (ps_asg (pe_call G_is_stretch hr (by rfl) T.g_is_stretch T.F_is_stretch.kp T.b_is_stretch .nil pass0 (pa_cons (pv 0) (pa_cons (pv 1) (pa_cons (pv 3) (pa_cons (pv 5) (pa_cons (pe_op op_add (pv 5) (pv 4)) pa_nil)))))) (pg_sub (pe_ix ix_list (pv 3) (pv 5) (fun _ _ => rfl)) (pe_op op_add (pv 5) (pv 4)) set_list))))))
  (pss_one (ps_ret (pv 3)))))), ?_⟩
    have hzl : z.length = n := Array.length_toList.symm.trans hn
    have hzs : z.length ≤ sizeLine := RD.szo (by omega)
    walk_at "rds"
    rw [hzl]
    refine RD.lcW (walk_range (lo := 0) (n := Int.toNat ((n : Int) + 1))) (by omega) fun D H2 hD s2 hv2 => ⟨fun i acc H' => Same H H' ∧ ∃ rs : List Addr, acc = rs.map V.ref ∧ rs.length = i ∧ rs.Nodup ∧ (∀ r, r ∈ rs → H r = none ∧ r ≠ D) ∧ ∀ i r, rs[i]? = some r → H' r = some (.lst ((List.range (n + 1)).map fun j => V.bl (decide (i = j)))), ⟨s2, [], rfl, rfl, .nil, fun r hr => (List.not_mem_nil hr).elim, fun i r hr => by simp at hr⟩, fun _ _ _ _ _ => trivial, fun i v acc H3 H4 Z N hi hp hDa hy hZ hN => ?_, fun acc H3 hp hDa => ?_⟩
    · obtain ⟨s3, rs, rfl, hrl, hrn, hrf, hrr⟩ := hp
      obtain ⟨rfl, rfl⟩ := hy
      rw [show (fun i : Nat => V.int (0 + (i : Int))) i = V.int (i : Int) from congrArg V.int (Int.zero_add _)]
      walk_at "rds"
      refine ⟨rfl, ?_⟩
      walk_at "rds"
      refine RD.lcW (walk_range (lo := 0) (n := Int.toNat ((n : Int) + 1))) (by omega) fun D2 H5 hD2 s5 hv5 => ⟨fun j acc2 H' => Same H4 H' ∧ acc2 = (List.range j).map fun j' => V.bl (decide (i = j')), ⟨s5, rfl⟩, fun _ _ _ _ _ => trivial, fun j v acc2 H6 H7 Z2 N2 hj hp2 hDb hy2 hZ2 hN2 => ?_, fun acc2 H6 hp2 hDb => ?_⟩
      · obtain ⟨s6, rfl⟩ := hp2
        obtain ⟨rfl, rfl⟩ := hy2
        rw [show (fun i : Nat => V.int (0 + (i : Int))) j = V.int (j : Int) from congrArg V.int (Int.zero_add _)]
        walk_at "rds"
        refine ⟨rfl, ?_⟩
        walk_at "rds"
        have eij : decide (V.int (i : Int) = V.int (j : Int)) = decide (i = j) := decide_eq_decide.mpr ⟨fun h => by have := V.int.inj h; omega, fun h => by rw [h]⟩
        rw [eij]
        refine hZ2 _ _ hDb fun H8 k8 h8 => ⟨RD.same_mut k8 s6 hD2, ?_⟩
        rw [List.range_succ, List.map_append]
        rfl
      · obtain ⟨s6, rfl⟩ := hp2
        have hDa6 := s6 _ _ hDa
        have nDD : D ≠ D2 := ne_of_none hDa hD2
        refine hZ _ _ hDa6 fun H8 k8 h8 => ⟨RD.same_mut k8 (s3.trans s6) hD, rs ++ [D2], by rw [List.map_append]; rfl, by rw [List.length_append, List.length_singleton, hrl], ?_, fun r hr => ?_, fun i2 r hr => ?_⟩
        · rw [List.nodup_append]
          refine ⟨hrn, by simp, fun a ha b hb e => ?_⟩
          obtain rfl : b = D2 := by simpa using hb
          subst e
          obtain ⟨i3, hi3⟩ := List.mem_iff_getElem?.mp ha
          have := hrr i3 a hi3
          rw [hD2] at this
          cases this
        · rcases List.mem_append.mp hr with h | h
          · exact hrf r h
          · obtain rfl : r = D2 := by simpa using h
            exact ⟨s3.free hD2, nDD.symm⟩
        · rcases Nat.lt_or_ge i2 rs.length with h | h
          · rw [List.getElem?_append_left h] at hr
            exact k8 _ _ (hrf r (List.mem_of_getElem? hr)).2 (s6 _ _ (hrr i2 r hr))
          · rw [List.getElem?_append_right h] at hr
            have hi3 : i2 - rs.length = 0 := by
              have := (List.getElem?_eq_some_iff.mp hr).1
              simpa using this
            rw [hi3] at hr
            obtain rfl : D2 = r := by simpa using hr
            obtain rfl : i2 = i := by omega
            rw [k8 _ _ nDD.symm hDb, show Int.toNat ((n : Int) + 1) = n + 1 by omega]
    · obtain ⟨s3, rs, rfl, hrl, hrn, hrf, hrr⟩ := hp
      have hM0 : TabAt H3 D n (fun i j => decide (i = j)) rs := ⟨hDa, by omega, hrn, hrr⟩
      have hfr : ∀ r, r ∈ rs → H r = none ∧ r ≠ D := hrf
      clear s2 hv2 hrr hrf
      walk_at "rds"
      refine RD.forW (walk_range (lo := 1) (n := Int.toNat ((n : Int) + 1 - 1))) (fun i σ H' => ∃ (F : Nat → Nat → Bool) (x4 x5 : Option V), σ = [some (.ref t), some (.str z), some (.int (n : Int)), some (.ref D), x4, x5, none, none] ∧ Same H H' ∧ TabAt H' D n F rs ∧ ∀ a b, a ≤ b → b ≤ n → b - a < 1 + i → (F a b = true ↔ IL.I (tls zs) (tl z) a b))
        ⟨_, _, _, rfl, s3, hM0, fun a b h1 h2 h3 => ?_⟩ (fun _ _ _ _ _ => trivial) (fun i v σ H4 H5 hi hp hy => ?_) (fun σ H4 hp => ?_)
      · obtain rfl : a = b := by omega
        exact ⟨fun _ => idle_self (by omega), fun _ => decide_eq_true rfl⟩
      · obtain ⟨F, x4, x5, rfl, s4, hM, hF⟩ := hp
        obtain ⟨rfl, rfl⟩ := hy
        have es : (fun i : Nat => V.int (1 + (i : Int))) i = V.int ((1 + i : Nat) : Int) := congrArg V.int (by omega)
        rw [es]
        clear hM0 s3
        walk_at "rds"
        refine RD.forW (walk_range (lo := 0) (n := Int.toNat ((n : Int) - ((1 + i : Nat) : Int) + 1))) (fun b σ H' => ∃ (F : Nat → Nat → Bool) (x5 : Option V), σ = [some (.ref t), some (.str z), some (.int (n : Int)), some (.ref D), some (.int ((1 + i : Nat) : Int)), x5, none, none] ∧ Same H H' ∧ TabAt H' D n F rs ∧ (∀ a b, a ≤ b → b ≤ n → b - a < 1 + i → (F a b = true ↔ IL.I (tls zs) (tl z) a b)) ∧ ∀ a, a < b → a + (1 + i) ≤ n → (F a (a + (1 + i)) = true ↔ IL.I (tls zs) (tl z) a (a + (1 + i))))
          ⟨F, _, rfl, s4, hM, hF, fun a h => absurd h (Nat.not_lt_zero _)⟩ (fun _ _ _ _ _ => trivial) (fun b v σ H6 H7 hb hp hy => ?_) (fun σ H6 hp => ?_)
        · clear hM hF s4
          obtain ⟨F, x5, rfl, s6, hM, hF, hG⟩ := hp
          obtain ⟨rfl, rfl⟩ := hy
          rw [show (fun i : Nat => V.int (0 + (i : Int))) b = V.int (b : Int) from congrArg V.int (Int.zero_add _)]
          have hbn : b + (1 + i) ≤ n := by omega
          have ht7 := s6 _ _ ht
          walk_at "rds"
          rw [show (b : Int) + ((1 + i : Nat) : Int) = ((b + (1 + i) : Nat) : Int) by omega]
          refine ⟨t, D, zs, z, b, b + (1 + i), n, F, rs, rfl, ht7, g, hn, hn8, hM, by omega, hbn, fun a c h1 h2 h3 h4 => hF a c h2 (by omega) (by omega), fun r H8 hr8 s8 => ?_⟩
          have hM8 := hM.same s8
          have hbl : b < rs.length := by have := hM.len; omega
          have hrb : rs[b]? = some rs[b] := List.getElem?_eq_getElem hbl
          obtain ⟨hfb, nDb⟩ := hfr rs[b] (List.mem_of_getElem? hrb)
          have hrow := hM8.row b _ hrb
          have hm8 := hM8.here
          walk_at "rds"
          refine RD.ixL (.inl (.inl hm8)) (at_nat (n := b) (show (rs.map V.ref)[b]? = some (.ref rs[b]) by rw [List.getElem?_map, hrb]; rfl)) ?_
          walk_at "rds"
          rw [show (b : Int) + ((1 + i : Nat) : Int) = ((b + (1 + i) : Nat) : Int) by omega]
          refine RD.setL hrow (j := b + (1 + i)) (by rw [List.length_map, List.length_range]; unfold ixN; rw [if_pos (by omega), if_pos (by omega), Int.toNat_natCast]) fun H9 k9 h9 => ?_
          refine ⟨setF F b (b + (1 + i)) r, _, rfl, RD.same_mut k9 (s6.trans s8) hfb, hM8.set hrb hbn k9 h9 nDb.symm, fun a c h1 h2 h3 => ?_, fun a h1 h2 => ?_⟩
          · unfold setF
            rw [if_neg (fun e => by omega)]
            exact hF a c h1 h2 h3
          · unfold setF
            by_cases e : a = b
            · subst e
              rw [if_pos ⟨rfl, rfl⟩]
              exact hr8
            · rw [if_neg (fun e2 => e e2.1)]
              exact hG a (by omega) h2
        · obtain ⟨F, x5, rfl, s6, hM, hF, hG⟩ := hp
          refine ⟨F, _, _, rfl, s6, hM, fun a b h1 h2 h3 => ?_⟩
          rcases Nat.lt_or_ge (b - a) (1 + i) with h4 | h4
          · exact hF a b h1 h2 h4
          · obtain rfl : b = a + (1 + i) := by omega
            exact hG a (by omega) h2
      · obtain ⟨F, x4, x5, rfl, s4, hM, hF⟩ := hp
        walk_at "rds"
        exact q D F rs _ s4 hM fun a b h1 h2 => hF a b h1 h2 (by omega)
theorem ok_is_idle (T : Txt P K mg) : FnOk P w K mg base CX0 3 T.a_is_idle T.fd_is_idle ["_law_pieces", "_law_log"] spIdleL := by
  have nd := sc_is_idle.nd
  have G_idle_ends : FnOk P w K mg base CX0 2 T.a_idle_ends T.fd_idle_ends ["_law_pieces", "_law_log"] spIdleEndsL := ok_idle_ends T
  refine T.F_is_idle.ok sc_is_idle (fun vs H Q E h => ?_) (fun cdv A outer s H vs Q E hr h => ?_)
  · obtain ⟨t, zs, z, rfl, _⟩ := h
    rfl
  · obtain ⟨t, zs, z, rfl, ht, g, hn8, q⟩ := h
    refine ⟨_, (pss_one (ps_ret (pe_ix ix_list (pe_ix ix_list (pe_call G_idle_ends hr (by rfl) T.g_idle_ends T.F_idle_ends.kp T.b_idle_ends .nil pass0 (pa_cons (pv 0) (pa_cons (pv 1) pa_nil))) pe_int (fun _ _ => rfl)) (pe_callB call_len_str (by rfl) T.m_len PySem.boot_len (pa_cons (pv 1) pa_nil)) (fun _ _ => rfl)))), ?_⟩
    have hzl : z.length = (tl z).length := Array.length_toList.symm
    have hzs : z.length ≤ sizeLine := RD.szo (by omega)
    walk_at "rds"
    refine ⟨t, zs, z, (tl z).length, rfl, ht, g, rfl, hn8, fun m F rs H1 s1 hM hF => ?_⟩
    obtain ⟨r, hr1, hr2⟩ := hM.ref (i := 0) (Nat.zero_le _)
    have hm := hM.here
    walk_at "rds"
    refine RD.ixL (.inl (.inl hm)) (at_nat (n := 0) hr1) ?_
    walk_at "rds"
    rw [hzl]
    refine RD.ixL (.inl (.inl hr2)) (at_nat (n := (tl z).length) (row_at (Nat.le_refl _))) ?_
    have e : F 0 (tl z).length = idD zs z := eq_idD ((hF 0 _ (Nat.zero_le _) (Nat.le_refl _)).trans IL.idle_all.symm)
    rw [e]
    exact q _ s1
end


end K27

namespace K27
open PySem PySem.Spec PyProof.Rows L2
local macro_rules | `(tactic| walk_at "kd") => `(tactic| first | assumption | exact SPD.KdOf.int _ | exact SPD.KdOf.str _ | exact SPD.KdOf.bl _ | exact SPD.KdOf.non | exact SPD.KdOf.same (by assumption) (by walk_at "kd") | exact SPD.KdOf.tup (by walk_at "hp") | exact SPD.KdOf.lst (by walk_at "hp") | fail "no")
local macro_rules | `(tactic| walk_at "ne") => `(tactic| first | assumption | exact Ne.symm (by assumption) | fail "no")
local macro_rules | `(tactic| walk_at "hp") => `(tactic| first | assumption | exact RD.at_same (by assumption) (by walk_at "hp") | exact RD.at_kb (by assumption) (by walk_at "ne") (by walk_at "hp") | fail "no")
local macro_rules | `(tactic| walk_at "sq") => `(tactic| first | assumption | exact Or.inl (Or.inl (by walk_at "hp")) | exact Same.seq (by assumption) (by walk_at "sq") | exact RD.KB.seq (by assumption) (by walk_at "ne") (by walk_at "sq") | fail "no")
local macro_rules | `(tactic| walk_at "st") => `(tactic| first | assumption | exact Or.inl (Or.inl (by walk_at "hp")) | exact RD.Same.tup (by assumption) (by walk_at "st") | exact RD.KB.tup (by assumption) (by walk_at "ne") (by walk_at "st") | fail "no")
local macro_rules | `(tactic| walk_at "rd") => `(tactic| first
  | with_reducible refine RD.c ?_
  | ((with_reducible refine' RD.var ?rdE ?rdK); (case rdE => exact rfl))
  | with_reducible refine RD.op ?_
  | with_reducible refine RD.un ?_
  | with_reducible refine RD.nil ?_
  | with_reducible refine RD.cons ?_
  | with_reducible refine RD.cb ?_
  | with_reducible refine RD.call ?_
  | with_reducible refine RD.test ?_
  | with_reducible refine RD.tb' ?_
  | with_reducible refine RD.bl ?_
  | with_reducible refine RD.and' ?_
  | with_reducible refine RD.or' ?_
  | with_reducible refine RD.not' ?_
  | with_reducible refine RD.andV ?_
  | with_reducible refine RD.orV ?_
  | with_reducible refine RD.notV ?_
  | with_reducible refine RD.ife ?_
  | with_reducible refine RD.sl ?_
  | with_reducible refine RD.part ?_
  | with_reducible refine RD.noPart ?_
  | with_reducible refine RD.partI ?_
  | with_reducible refine RD.rd0 ?_
  | with_reducible refine RD.rdU ?_
  | ((with_reducible refine' RD.rdEq ?rdE ?rdK); (case rdE => rfl))
  | ((with_reducible refine' RD.rdNe ?rdE ?rdK); (case rdE => rfl))
  | ((with_reducible refine' RD.ixL ?rdH ?rdE ?rdK); (case rdH => walk_at "sq"); (case rdE => first | rfl | assumption))
  | ((with_reducible refine' RD.rdI ?rdC ?rdK); (case rdC => first | assumption | (show (0 : Int) < _; first | decide | omega) | exact ⟨by decide, by decide⟩ | exact ⟨by assumption, by assumption⟩ | exact .inr ⟨by decide, by decide⟩ | exact .inl ⟨by decide, by decide⟩ | exact ⟨by decide, by decide, by decide⟩ | exact .inl ⟨by omega, by omega⟩))
  | ((with_reducible refine' RD.setL ?rdH ?rdE ?rdK); (case rdH => walk_at "hp"); (case rdE => rfl); intro $(Lean.mkIdent `H'):ident $(Lean.mkIdent `hk):ident $(Lean.mkIdent `hv):ident)
  | ((with_reducible refine' RD.irng1V ?rdA ?rdB ?rdK); (case rdA => first | decide | omega); (case rdB => first | decide | omega))
  | with_reducible refine RD.int1 ?_
  | with_reducible refine RD.abs1 ?_
  | ((with_reducible refine' RD.len ?rdH ?rdK); (case rdH => first | exact Or.inl (by walk_at "sq") | exact Or.inr (by walk_at "st")))
  | with_reducible refine RD.tup ?_
  | with_reducible refine RD.lst ?_
  | with_reducible refine RD.ite1 ?_
  | with_reducible refine RD.ite0 ?_
  | with_reducible refine RD.ite1n ?_
  | with_reducible refine RD.ite0n ?_
  | with_reducible refine RD.seq ?_
  | with_reducible refine RD.asg ?_
  | with_reducible refine RD.name ?_
  | with_reducible refine RD.ret ?_
  | with_reducible refine RD.drop ?_
  | with_reducible refine RD.next ?_
  | with_reducible refine RD.ifs ?_
  | with_reducible refine RD.par ?_
  | with_reducible refine RD.par2 ?_
  | with_reducible refine RD.sub ?_
  | with_reducible refine RD.gcons ?_
  | with_reducible refine RD.gnil ?_
  | with_reducible refine RD.bm ?_
  | ((with_reducible refine' RD.bmL ?rdH ?rdK); (case rdH => walk_at "sq"))
  | ((with_reducible refine' RD.newZ ?rdH ?rdK); (case rdH => exact RD.sz _); intro $(Lean.mkIdent `p'):ident $(Lean.mkIdent `H'):ident $(Lean.mkIdent `hp):ident $(Lean.mkIdent `hs):ident $(Lean.mkIdent `hv):ident; (try have $(Lean.mkIdent `hn):ident := hand_ne $(Lean.mkIdent `hp):ident (by walk_at "hk")))
  | with_reducible refine RD.fors ?_
  | with_reducible refine RD.lc ?_
  | with_reducible refine RD.yes ?_
  | with_reducible refine RD.ilist ?_
  | ((with_reducible refine' RD.ilistV ?rdH ?rdK); (case rdH => walk_at "sq"))
  | with_reducible refine RD.itup ?_
  | ((with_reducible refine' RD.itupV ?rdH ?rdK); (case rdH => walk_at "st"))
  | with_reducible refine RD.irng1 ?_
  | with_reducible refine RD.irng2 ?_
  | ((with_reducible refine' RD.irng2V ?rdA ?rdK); (case rdA => first | decide | omega))
  | with_reducible refine RD.ienum ?_
  | ((with_reducible refine' RD.ienumV ?rdH ?rdK); (case rdH => walk_at "sq"))
  | with_reducible refine RD.izip ?_
  | ((with_reducible refine' RD.izipV ?rdH ?rdE ?rdK); (case rdH => walk_at "sq"); (case rdE => walk_at "sq"))
  | with_reducible refine SPD.izipA ?_
  | with_reducible refine RD.istr ?_
  | with_reducible refine RD.istrV ?_
  | ((with_reducible refine' RD.slL ?rdH ?rdK); (case rdH => walk_at "sq"); intro $(Lean.mkIdent `p'):ident $(Lean.mkIdent `H'):ident $(Lean.mkIdent `hp):ident $(Lean.mkIdent `hs):ident $(Lean.mkIdent `hv):ident; (try have $(Lean.mkIdent `hn):ident := hand_ne $(Lean.mkIdent `hp):ident (by walk_at "hk")))
  | ((with_reducible refine' RD.cat ?rdH ?rdE ?rdZ ?rdK); (case rdH => walk_at "hp"); (case rdE => walk_at "hp"); (case rdZ => exact RD.sz _); intro $(Lean.mkIdent `p'):ident $(Lean.mkIdent `H'):ident $(Lean.mkIdent `hp):ident $(Lean.mkIdent `hs):ident $(Lean.mkIdent `hv):ident; (try have $(Lean.mkIdent `hn):ident := hand_ne $(Lean.mkIdent `hp):ident (by walk_at "hk")))
  | ((with_reducible refine' RD.gtup ?rdH ?rdE ?rdK); (case rdH => walk_at "st"); (case rdE => rfl))
  | ((with_reducible refine' RD.app ?rdH ?rdZ ?rdK); (case rdH => walk_at "hp"); (case rdZ => first | assumption | (apply RD.szl; omega)); intro $(Lean.mkIdent `H'):ident $(Lean.mkIdent `hk):ident $(Lean.mkIdent `hv):ident)
  | ((with_reducible refine' RD.all1 ?rdH ?rdK); (case rdH => walk_at "sq"))
  | ((with_reducible refine' RD.any1 ?rdH ?rdK); (case rdH => walk_at "sq"))
  | ((with_reducible refine' SPD.dnew ?rdK); intro $(Lean.mkIdent `p'):ident $(Lean.mkIdent `H'):ident $(Lean.mkIdent `hp):ident $(Lean.mkIdent `hs):ident $(Lean.mkIdent `hv):ident; (try have $(Lean.mkIdent `hn):ident := hand_ne $(Lean.mkIdent `hp):ident (by walk_at "hk")))
  | ((with_reducible refine' SPD.disp1 ?rdK); intro $(Lean.mkIdent `p'):ident $(Lean.mkIdent `H'):ident $(Lean.mkIdent `hp):ident $(Lean.mkIdent `hs):ident $(Lean.mkIdent `hv):ident; (try have $(Lean.mkIdent `hn):ident := hand_ne $(Lean.mkIdent `hp):ident (by walk_at "hk")))
  | ((with_reducible refine' SPD.isSeq ?rdH ?rdE ?rdK); (case rdH => walk_at "hp"); (case rdE => walk_at "kd"))
  | ((with_reducible refine' SPD.isTup ?rdE ?rdK); (case rdE => walk_at "kd"))
  | ((with_reducible refine' SPD.isLst ?rdE ?rdK); (case rdE => walk_at "kd"))
  | ((with_reducible refine' SPD.isBool ?rdE ?rdK); (case rdE => walk_at "kd"))
  | ((with_reducible refine' SPD.isStr ?rdE ?rdK); (case rdE => walk_at "kd"))
  | ((with_reducible refine' SPD.isInt ?rdE ?rdK); (case rdE => walk_at "kd"))
  | dsimp only)
local macro_rules | `(tactic| walk_at "rds") => `(tactic| repeat walk_at "rd")
local macro_rules | `(tactic| walk_at "sm") => `(tactic| first | assumption | exact Same.refl _ | exact RD.sm_tr (by assumption) (by walk_at "sm") | fail "no")
local macro_rules | `(tactic| walk_at "kb") => `(tactic| first | assumption | exact RD.KB.refl | exact RD.kb_tr (by assumption) (by walk_at "kb") | exact RD.kb_trs (by assumption) (by walk_at "kb") | fail "no")
local macro_rules | `(tactic| walk_at "fr") => `(tactic| first | assumption | exact RD.fr_of (by assumption) (by walk_at "sm") | fail "no")
local macro_rules | `(tactic| walk_at "hk") => `(tactic| first | assumption | exact hand_same (by assumption) (by walk_at "hk") | exact hand_kb (by assumption) (by walk_at "fr") (by walk_at "hk") | fail "no")
local macro_rules | `(tactic| walk_at "na") => `(tactic| first | assumption | exact hand_ne (by assumption) (by walk_at "hk") | fail "no")
local macro_rules | `(tactic| walk_at "dqa") => `(tactic| first | exact SPD.DqA.nil | exact SPD.DqA.cons (by walk_at "dq") (by walk_at "dqa") | exact SPD.DqA.app (by walk_at "dqa") (by walk_at "dqa") | fail "no")
local macro_rules | `(tactic| walk_at "dq") => `(tactic| first | assumption | exact SPD.Dq.leaf rfl | exact SPD.dq_kb (by assumption) (by walk_at "kb") | exact SPD.dqTup (by walk_at "hp") (by walk_at "na") (by walk_at "dqa") | exact SPD.dqLst (by walk_at "hp") (by walk_at "na") (by walk_at "dqa") | exact SPD.dqNil (by walk_at "hp") (by walk_at "na") (by first | decide | simp) (by first | decide | simp) | fail "no")

local macro_rules | `(tactic| walk_at "rd") => `(tactic| first
  | with_reducible refine RB.chain ?_
  | with_reducible refine RB.m1 ?_
  | with_reducible refine RB.strE ?_
  | with_reducible refine RB.fld ?_
  | with_reducible refine RB.setF ?_
  | with_reducible refine RB.ss ?_
  | with_reducible refine RB.rev ?_
  | with_reducible refine RB.make ?_
  | with_reducible refine RB.makeS ?_
  | with_reducible refine RB.mkO ?_
  | with_reducible refine NR.ienumT ?_
  | with_reducible refine RB.inS ?_
  | with_reducible refine RB.bmS ?_
  | with_reducible refine RB.callS ?_
  | with_reducible refine RB.sw3 ?_
  | with_reducible refine RB.par3 ?_
  | with_reducible refine RB.par3V ?_
  | ((with_reducible refine' RB.slS ?rdH ?rdK); (case rdH => walk_at "sz"))
  | with_reducible refine RB.xf ?_
  | ((with_reducible refine' RB.xfV ?rdH ?rdE ?rdK); (case rdH => walk_at "hp"); (case rdE => rfl))
  | ((with_reducible refine' NR.ienumTV ?rdH ?rdK); (case rdH => walk_at "st"))
  | ((with_reducible refine' RB.lenL ?rdH ?rdK); (case rdH => walk_at "sq"))
  | ((with_reducible refine' RB.lenT ?rdH ?rdK); (case rdH => walk_at "st"))
  | ((with_reducible refine' RB.lenS ?rdH ?rdK); (case rdH => walk_at "sz"))
  | ((with_reducible refine' RD.lenS ?rdH ?rdK); (case rdH => walk_at "sz"))
  | ((with_reducible refine' RB.slT ?rdH ?rdK); (case rdH => walk_at "hp"); intro $(Lean.mkIdent `p'):ident $(Lean.mkIdent `H'):ident $(Lean.mkIdent `hs):ident $(Lean.mkIdent `hv):ident $(Lean.mkIdent `hp):ident; (try have $(Lean.mkIdent `hn):ident := two_ne $(Lean.mkIdent `hp):ident (by walk_at "na") (by walk_at "hk")))
  | ((with_reducible refine' RB.revV ?rdH ?rdK); (case rdH => walk_at "st"); intro $(Lean.mkIdent `p'):ident $(Lean.mkIdent `H'):ident $(Lean.mkIdent `hp):ident $(Lean.mkIdent `hs):ident $(Lean.mkIdent `hv):ident; (try have $(Lean.mkIdent `hn):ident := hand_ne $(Lean.mkIdent `hp):ident (by walk_at "hk")))
  | ((with_reducible refine' RB.listS ?rdH ?rdK); (case rdH => walk_at "sz"); intro $(Lean.mkIdent `p'):ident $(Lean.mkIdent `H'):ident $(Lean.mkIdent `hp):ident $(Lean.mkIdent `hs):ident $(Lean.mkIdent `hv):ident; (try have $(Lean.mkIdent `hn):ident := hand_ne $(Lean.mkIdent `hp):ident (by walk_at "hk")))
  | ((with_reducible refine' RB.listO ?rdH ?rdK); (case rdH => first | exact Or.inl (by walk_at "sq") | exact Or.inr (by walk_at "st")); intro $(Lean.mkIdent `p'):ident $(Lean.mkIdent `H'):ident $(Lean.mkIdent `hp):ident $(Lean.mkIdent `hs):ident $(Lean.mkIdent `hv):ident; (try have $(Lean.mkIdent `hn):ident := hand_ne $(Lean.mkIdent `hp):ident (by walk_at "hk")))
  | ((with_reducible refine' RB.tupL ?rdH ?rdK); (case rdH => walk_at "sq"); intro $(Lean.mkIdent `p'):ident $(Lean.mkIdent `H'):ident $(Lean.mkIdent `hp):ident $(Lean.mkIdent `hs):ident $(Lean.mkIdent `hv):ident; (try have $(Lean.mkIdent `hn):ident := hand_ne $(Lean.mkIdent `hp):ident (by walk_at "hk")))
  | ((with_reducible refine' RB.catT ?rdH ?rdE ?rdZ ?rdK); (case rdH => walk_at "hp"); (case rdE => walk_at "hp"); (case rdZ => exact RB.LN.sum (by walk_at "ln") (by walk_at "ln") rfl); intro $(Lean.mkIdent `p'):ident $(Lean.mkIdent `H'):ident $(Lean.mkIdent `hs):ident $(Lean.mkIdent `hv):ident $(Lean.mkIdent `hp):ident; (try have $(Lean.mkIdent `hn):ident := three_ne $(Lean.mkIdent `hp):ident (by walk_at "na") (by walk_at "na") (by walk_at "hk")))
  | fail "no")
local macro_rules | `(tactic| walk_at "ln") => `(tactic| first | with_reducible assumption | exact RB.LN.cut (by walk_at "ln") | exact RB.LN.app (by walk_at "ln") (by walk_at "ln") | exact RB.LN.rev (by walk_at "ln") | exact RB.LN.rep (by walk_at "ln") | exact RB.LN.lit rfl | fail "no")
local macro_rules | `(tactic| walk_at "sz") => `(tactic| first | assumption | exact RD.sz _ | fail "no")

local macro_rules | `(tactic| walk_at "dk") => `(tactic| first | exact FR.rd_of (by walk_at "hp") | exact Or.inr ⟨_, by walk_at "hp"⟩ | fail "no")
local macro_rules | `(tactic| walk_at "rd") => `(tactic| first
  | with_reducible refine FR.dget ?_
  | with_reducible refine FR.din ?_
  | with_reducible refine FR.dnotin ?_
  | with_reducible refine FR.dc ?_
  | with_reducible refine FR.ikeys ?_
  | with_reducible refine FR.ivals ?_
  | with_reducible refine FR.bm0 ?_
  | ((with_reducible refine' FR.dinS ?rdH ?rdK); (case rdH => walk_at "dk"))
  | ((with_reducible refine' FR.keysV ?rdH ?rdK); (case rdH => walk_at "hp"))
  | ((with_reducible refine' FR.valsV ?rdH ?rdK); (case rdH => walk_at "hp"))
  | ((with_reducible refine' FR.bmD ?rdH ?rdK); (case rdH => walk_at "hp"))
  | with_reducible refine FR.ckw ?_
  | with_reducible refine FR.dget2 ?_
  | ((with_reducible refine' FR.isdV ?rdH ?rdK); (case rdH => walk_at "dk"))
  | ((with_reducible refine' FR.dg2S ?rdH ?rdK); (case rdH => walk_at "dk"))
  | ((with_reducible refine' FR.lenD ?rdH ?rdK); (case rdH => walk_at "hp"))
  | fail "no")

local macro_rules | `(tactic| walk_at "rd") => `(tactic| first
  | with_reducible refine BH.iitems ?_
  | with_reducible refine BH.revl ?_
  | ((with_reducible refine' BH.dg2I ?rdH ?rdK); (case rdH => walk_at "dk"))
  | ((with_reducible refine' BH.catN ?rdH ?rdE ?rdZ ?rdK); (case rdH => walk_at "hp"); (case rdE => walk_at "hp"); (case rdZ => assumption); intro $(Lean.mkIdent `p'):ident $(Lean.mkIdent `H'):ident $(Lean.mkIdent `hs):ident $(Lean.mkIdent `hv):ident)
  | fail "no")

/-! ### the law's own lot, its own parting piece -/
def spFlag : Sp := fun vs H Q _ => ∃ b c : Bool, vs = [.bl b, .bl c] ∧ Q (.bl (decide (V.bl b = V.bl c))) H
def spNeedlessL : Sp := fun vs H Q _ => ∃ (t : Addr) (zs : List Str), vs = [.ref t] ∧ H t = some (.tup (zs.map V.str)) ∧ Good zs ∧ ∀ p H', H p = none → Same H H' → H' p = some (.tup ((needL zs).map fun i : Nat => V.int (i : Int))) → Q (.ref p) H'
def spPartingL : Sp := fun vs H Q _ => ∃ (t u : Addr) (zs ws : List Str), vs = [.ref t, .ref u] ∧ H t = some (.tup (zs.map V.str)) ∧ Good zs ∧ H u = some (.tup (ws.map V.str)) ∧ Good ws ∧
  (partL zs ws = [] → ∀ H', Same H H' → Q .non H') ∧ ∀ z H', z ∈ partL zs ws → (∀ y, y ∈ partL zs ws → SKL.leS z y = true) → Same H H' → Q (.str z) H'
def prZ (zs : List Str) : List RSK.NZ := zs.map fun y => (y.length, y)
section
variable {P : Program} {w : World} {K : PySem.W.Frag} {mg : Str → Option Value} {base : Heap}
theorem ok_flag (T : Txt P K mg) : FnOk P w K mg base CX0 1 T.a_flag T.fd_flag ["_law_told", "_law_due"] spFlag := by
  have nd := sc_flag.nd
  refine T.F_flag.ok sc_flag (fun vs H Q E h => ?_) (fun cdv A outer s H vs Q E hr h => ?_)
  · obtain ⟨b, c, rfl, _⟩ := h
    rfl
  · obtain ⟨b, c, rfl, q⟩ := h
    refine ⟨_, (pss_one (ps_ret (pe_and (pe_callB call_isi (by rfl) T.m_isinstance (by decide +kernel) (pa_cons (pv 0) (pa_cons (pe_bltn (v := .ty "bool") (by rfl) T.m_bool (by decide +kernel) rfl) pa_nil))) (pe_one (pe_cmpR op_eq (pv 0) (pv 1) (nomark _)))))), ?_⟩
    walk_at "rds"
    refine RD.ite_d (fun _ => ?_) (fun n => absurd rfl n)
    walk_at "rds"
    exact q
theorem ok_needless (T : Txt P K mg) : FnOk P w K mg base CX0 4 T.a_needless T.fd_needless ["_law_pieces"] spNeedlessL := by
  have nd := sc_needless.nd
  have G_is_idle : FnOk P w K mg base CX0 3 T.a_is_idle T.fd_is_idle ["_law_pieces", "_law_log"] spIdleL := ok_is_idle T
  refine T.F_needless.ok sc_needless (fun vs H Q E h => ?_) (fun cdv A outer s H vs Q E hr h => ?_)
  · obtain ⟨t, zs, rfl, _⟩ := h
    rfl
  · obtain ⟨t, zs, rfl, ht, g, q⟩ := h
    refine ⟨_, (pss_cons (ps_set (i := 1) nd rfl (by first | exact Or.inl rfl | exact Or.inr rfl) (pe_lst pa_nil))
  (pss_cons (ps_for PassesOwn.never rfl (NR.pi_enumT (by rfl) T.m_enumerate (pa_cons (pv 0) pa_nil)) (pg_tup rfl (pgs_cons (pg_name (i := 2) nd rfl (by first | exact Or.inl rfl | exact Or.inr rfl)) (pgs_cons (pg_name (i := 3) nd rfl (by first | exact Or.inl rfl | exact Or.inr rfl)) pgs_nil)))
    (pss_one (ps_if (PW.pt (pw_and (pt_cmpR op_gt (pe_callB call_len_seq (by rfl) T.m_len PySem.boot_len (pa_cons (pv 0) pa_nil)) pe_int (nomark _)) (pw_and1 (pt_val (pe_call G_is_idle hr (by rfl) T.g_is_idle T.F_is_idle.kp T.b_is_idle .nil pass0 (pa_cons (pe_op op_catA (pe_slice sl_tupA (pv 0) po_none (po_some (pv 2))) (pe_slice sl_tupA (pv 0) (po_some (pe_op op_add (pv 2) pe_int)) po_none)) (pa_cons (pv 3) pa_nil)))))))
    (pss_one (ps_expr (pe_bm PySem.F.plainAttrs_list PySem.F.slot_list_append PySem.F.type_list_append mt_append (pv 1) (pa_cons (pv 2) pa_nil))))
    pss_nil)))
  (pss_one (ps_ret (pe_callTy RB.call_tupO (by rfl) T.m_tuple (by decide +kernel) (pa_cons (pv 1) pa_nil)))))), ?_⟩
    have hlm : (zs.map V.str).length = zs.length := List.length_map ..
    have g12 := g.few
    walk_at "rds"
    have hfn := hp
    have sf := hs
    have hf : H' p' = some (.lst ([].map fun i : Nat => V.int (i : Int))) := hv
    clear hp hs hv
    generalize p' = f at hfn hf
    refine RD.forW (NR.w_enumT (xs := zs.map V.str)) (fun i σ H' => ∃ (x2 x3 : Option V), σ = [some (.ref t), some (.ref f), x2, x3] ∧ Same H H' ∧ H' f = some (.lst (((List.range i).filter (needD zs)).map fun j : Nat => V.int (j : Int)))) ⟨_, _, rfl, sf, hf⟩ (fun i σ H' _ ⟨_, _, _, s, _⟩ => .inl (.inl (s _ _ ht))) (fun i v σ H2 H3 hi hp hy => ?_) (fun σ H2 hp => ?_)
    · obtain ⟨x2, x3, rfl, s2, hf2⟩ := hp
      obtain ⟨T1, x1, y1, rfl, hT, s3, hv3, hx1, hy1⟩ := hy
      obtain rfl : V.int (i : Nat) = x1 := Option.some.inj hx1
      rw [hlm] at hi
      obtain rfl : y1 = .str (zs.getD i "") := by
        have hy1 : (zs.map V.str)[i]? = some y1 := hy1
        rw [List.getElem?_map, getD_at hi] at hy1
        exact (Option.some.inj hy1).symm
      have hy8 := (piece_size (g.piece _ (List.mem_of_getElem? (getD_at hi)))).2
      have s23 := s2.trans s3
      have hf3 := s3 _ _ hf2
      have ht3 := s23 _ _ ht
      clear sf hf hf2
      have app : ∀ e : needD zs i = true, ((List.range (i + 1)).filter (needD zs)).map (fun j : Nat => V.int (j : Int)) = ((List.range i).filter (needD zs)).map (fun j : Nat => V.int (j : Int)) ++ [V.int (i : Int)] := fun e => by
        rw [List.range_succ, List.filter_append, List.map_append, List.filter_cons, e]
        rfl
      have skip : ∀ e : needD zs i = false, ((List.range (i + 1)).filter (needD zs)).map (fun j : Nat => V.int (j : Int)) = ((List.range i).filter (needD zs)).map (fun j : Nat => V.int (j : Int)) := fun e => by
        rw [List.range_succ, List.filter_append, List.filter_cons, e]
        simp
      have hfl : (((List.range i).filter (needD zs)).map fun j : Nat => V.int (j : Int)).length ≤ 12 := by
        rw [List.length_map]
        have := List.length_filter_le (needD zs) (List.range i)
        rw [List.length_range] at this
        omega
      generalize eL : ((List.range i).filter (needD zs)).map (fun j : Nat => V.int (j : Int)) = fl at hf3 app skip hfl
      walk_at "rds"
      refine RD.ite_d (fun h0 => ?_) (fun h0 => ?_)
      · have h1 : 1 < zs.length := by
          have h0 : (1 : Int) < ((zs.map V.str).length : Int) := h0
          omega
        have g2 := good_erase g h1 hi
        iterate 10 (walk_at "rd")
        refine RB.slT ht3 fun p1 H4 s4 h4 _ => ?_
        iterate 9 (walk_at "rd")
        refine RB.slT (s4 _ _ ht3) fun p2 H5 s5 h5 _ => ?_
        refine RB.catT (s5 _ _ h4) h5 (RD.szo (by have := cutV_len (zs.map V.str) none (some (i : Int)); have := cutV_len (zs.map V.str) (some ((i : Int) + 1)) none; omega)) fun p3 H6 s6 h6 _ => ?_
        rw [cut_erase] at h6
        have s36 := (s4.trans s5).trans s6
        have hf6 := s36 _ _ hf3
        clear s4 s5 s6 h4 h5
        walk_at "rds"
        refine ⟨p3, zs.eraseIdx i, zs.getD i "", rfl, h6, g2, by rw [show (tl (zs.getD i "")).length = (zs.getD i "").cps.size from Array.length_toList]; exact hy8, fun H7 s7 => ?_⟩
        have e0 : idD (zs.eraseIdx i) (zs.getD i "") = needD zs i := by
          unfold needD
          rw [decide_eq_true h1, Bool.true_and]
        rw [e0]
        have hf7 := s7 _ _ hf6
        have s27 := s23.trans (s36.trans s7)
        refine ⟨_, rfl, RD.ite_b (fun e => ?_) (fun e => ?_)⟩
        · walk_at "rds"
          refine ⟨_, _, rfl, RD.same_mut hk s27 hfn, ?_⟩
          rw [app e]
          exact hv
        · walk_at "rds"
          exact ⟨_, _, rfl, s27, by rw [skip e]; exact hf7⟩
      · have h1 : ¬ 1 < zs.length := fun h => h0 (by show (1 : Int) < ((zs.map V.str).length : Int); omega)
        have e : needD zs i = false := by
          unfold needD
          rw [decide_eq_false h1, Bool.false_and]
        walk_at "rds"
        exact ⟨_, _, rfl, s23, by rw [skip e]; exact hf3⟩
    · obtain ⟨x2, x3, rfl, s2, hf2⟩ := hp
      rw [hlm] at hf2
      walk_at "rds"
      exact q _ _ (s2.free hp) (s2.trans hs) (by rw [hv]; rfl)
theorem ok_parting (T : Txt P K mg) : FnOk P w K mg base CX0 4 T.a_parting T.fd_parting ["_law_pieces", "_law_others"] spPartingL := by
  have nd := sc_parting.nd
  have G_is_idle : FnOk P w K mg base CX0 3 T.a_is_idle T.fd_is_idle ["_law_pieces", "_law_log"] spIdleL := ok_is_idle T
  refine T.F_parting.ok sc_parting (fun vs H Q E h => ?_) (fun cdv A outer s H vs Q E hr h => ?_)
  · obtain ⟨t, u, zs, ws, rfl, _⟩ := h
    rfl
  · obtain ⟨t, u, zs, ws, rfl, ht, gz, hu, gw, q1, q2⟩ := h
    refine ⟨_, (pss_cons (ps_setLc (i := 2) (own := [("_law_piece", 3)]) (g := (gName 3)) rfl nd rfl rfl (sw_true rfl rfl rfl (by decide +kernel)) (pi_tup (pv 0)) (blkOk_by (own := [("_law_piece", 3)]) (N := N_parting) (sc := defScope s_parting) (by decide +kernel)) (fun _ _ _ _ _ => (pg_name (i := 3) nd rfl (Or.inl rfl))) (fun _ _ _ _ _ => (pts_one (pt_not (pt_val (pe_call G_is_idle hr (by rfl) T.g_is_idle T.F_is_idle.kp T.b_is_idle .nil pass0 (pa_cons (pv 1) (pa_cons (pv 3) pa_nil))))))) (fun _ _ _ _ _ => (pe_tup (pa_cons (pe_callB call_len_str (by rfl) T.m_len PySem.boot_len (pa_cons (pv 3) pa_nil)) (pa_cons (pv 3) pa_nil)))))
  (pss_cons (ps_set (i := 2) nd rfl (by first | exact Or.inl rfl | exact Or.inr rfl) (pe_op op_cat (pv 2) (pe_lc (own := [("_law_piece", 3)]) (g := (gName 3)) rfl nd (pi_tup (pv 1)) (blkOk_by (own := [("_law_piece", 3)]) (N := N_parting) (sc := defScope s_parting) (by decide +kernel)) (fun _ _ _ _ _ => (pg_name (i := 3) nd rfl (Or.inl rfl))) (fun _ _ _ _ _ => (pts_one (pt_not (pt_val (pe_call G_is_idle hr (by rfl) T.g_is_idle T.F_is_idle.kp T.b_is_idle .nil pass0 (pa_cons (pv 0) (pa_cons (pv 3) pa_nil))))))) (fun _ _ _ _ _ => (pe_tup (pa_cons (pe_callB call_len_str (by rfl) T.m_len PySem.boot_len (pa_cons (pv 3) pa_nil)) (pa_cons (pv 3) pa_nil)))))))
  (pss_one (ps_ret (pe_ifExp (pt_cmpR op_gt (pe_callB call_len_seq (by rfl) T.m_len PySem.boot_len (pa_cons (pv 2) pa_nil)) pe_int (nomark _)) (pe_ix ix_tup (pe_callB (MKD.cr_minZ rfl hr.units) (by rfl) T.m_min (by decide +kernel) (pa_cons (pv 2) pa_nil)) pe_int (fun _ _ => rfl)) pe_non))))), ?_⟩
    have hlm : (zs.map V.str).length = zs.length := List.length_map ..
    have hlw : (ws.map V.str).length = ws.length := List.length_map ..
    have gz12 := gz.few
    have gw12 := gw.few
    walk_at "rds"
    refine RD.lcW (walk_tup (xs := zs.map V.str)) (by omega) fun D H2 hD s2 hv2 => ⟨fun i acc H' => Same H H' ∧ RSK.PZ H' acc (prZ ((zs.take i).filter fun y => !idD ws y)), ⟨s2, .nil⟩, fun i acc H' _ p => .inl (.inl (p.1 _ _ ht)), fun i x acc H3 H4 Z N hi hp hDa hy hZ hN => ?_, fun acc H3 hp hDa => ?_⟩
    · obtain ⟨s3, hP⟩ := hp
      obtain ⟨rfl, hx⟩ := hy
      rw [List.getElem?_map] at hx
      obtain ⟨y, hyj, rfl⟩ := Option.map_eq_some_iff.mp hx
      have hy8 := (piece_size (gz.piece y (List.mem_of_getElem? hyj))).2
      have hyl : y.length ≤ sizeLine := RD.szo (by show y.cps.size ≤ _; omega)
      have etk : zs.take (i + 1) = zs.take i ++ [y] := by rw [List.take_add_one, hyj]; rfl
      walk_at "rds"
      refine ⟨rfl, ?_⟩
      walk_at "rds"
      refine ⟨u, ws, y, rfl, s3 _ _ hu, gw, by rw [show (tl y).length = y.cps.size from Array.length_toList]; exact hy8, fun H5 s5 => ?_⟩
      have hD5 := s5 _ _ hDa
      walk_at "rds"
      refine RD.ite_b (fun e => ?_) (fun e => ?_)
      · walk_at "rds"
        have hD6 := hs _ _ hD5
        refine hZ _ _ hD6 fun H6 k6 h6 => ⟨RD.same_mut k6 (s3.trans (s5.trans hs)) hD, ?_⟩
        rw [etk, List.filter_append, List.filter_cons, e]
        have : prZ ((zs.take i).filter (fun y => !idD ws y) ++ [y]) = prZ ((zs.take i).filter fun y => !idD ws y) ++ [(y.length, y)] := List.map_append ..
        show RSK.PZ H6 _ (prZ ((zs.take i).filter (fun y => !idD ws y) ++ [y]))
        rw [this]
        exact (((hP.same (s5.trans hs)).app (.cons hv .nil))).kb k6 hD6
      · refine hN _ hD5 ⟨s3.trans s5, ?_⟩
        rw [etk, List.filter_append, List.filter_cons, e]
        simpa using hP.same s5
    obtain ⟨s3, hP⟩ := hp
    rw [hlm, List.take_length] at hP
    have hu3 := s3 _ _ hu
    have ht3 := s3 _ _ ht
    walk_at "rds"
    refine RD.lcW (walk_tup (xs := ws.map V.str)) (by omega) fun D2 H4 hD2 s4 hv4 => ⟨fun i acc H' => Same H3 H' ∧ RSK.PZ H' acc (prZ ((ws.take i).filter fun y => !idD zs y)), ⟨s4, .nil⟩, fun i acc H' _ p => .inl (.inl (p.1 _ _ hu3)), fun i x acc2 H5 H6 Z N hi hp hDb hy hZ hN => ?_, fun acc2 H5 hp hDb => ?_⟩
    · obtain ⟨s5, hP5⟩ := hp
      obtain ⟨rfl, hx⟩ := hy
      rw [List.getElem?_map] at hx
      obtain ⟨y, hyj, rfl⟩ := Option.map_eq_some_iff.mp hx
      have hy8 := (piece_size (gw.piece y (List.mem_of_getElem? hyj))).2
      have hyl : y.length ≤ sizeLine := RD.szo (by show y.cps.size ≤ _; omega)
      have etk : ws.take (i + 1) = ws.take i ++ [y] := by rw [List.take_add_one, hyj]; rfl
      walk_at "rds"
      refine ⟨rfl, ?_⟩
      walk_at "rds"
      refine ⟨t, zs, y, rfl, s5 _ _ ht3, gz, by rw [show (tl y).length = y.cps.size from Array.length_toList]; exact hy8, fun H7 s7 => ?_⟩
      have hD7 := s7 _ _ hDb
      walk_at "rds"
      refine RD.ite_b (fun e => ?_) (fun e => ?_)
      · walk_at "rds"
        have hD8 := hs _ _ hD7
        refine hZ _ _ hD8 fun H8 k8 h8 => ⟨RD.same_mut k8 (s5.trans (s7.trans hs)) hD2, ?_⟩
        rw [etk, List.filter_append, List.filter_cons, e]
        have : prZ ((ws.take i).filter (fun y => !idD zs y) ++ [y]) = prZ ((ws.take i).filter fun y => !idD zs y) ++ [(y.length, y)] := List.map_append ..
        show RSK.PZ H8 _ (prZ ((ws.take i).filter (fun y => !idD zs y) ++ [y]))
        rw [this]
        exact (((hP5.same (s7.trans hs)).app (.cons hv .nil))).kb k8 hD8
      · refine hN _ hD7 ⟨s5.trans s7, ?_⟩
        rw [etk, List.filter_append, List.filter_cons, e]
        simpa using hP5.same s7
    obtain ⟨s5, hP5⟩ := hp
    rw [hlw, List.take_length] at hP5
    have hDa5 := s5 _ _ hDa
    have hP3 := hP.same s5
    have hPl : ∀ l : List Str, (prZ l).length = l.length := fun l => List.length_map ..
    have lf : ∀ (p : Str → Bool) (l : List Str), (l.filter p).length ≤ l.length := fun p l => List.length_filter_le _ _
    have f1 := lf (fun y => !idD ws y) zs
    have f2 := lf (fun y => !idD zs y) ws
    have n1 := hP3.len
    have n2 := hP5.len
    rw [hPl] at n1 n2
    walk_at "rds"
    refine RD.cat hDa5 hDb (RD.szo (by omega)) fun p6 H6 hp6 s6 h6 => ?_
    have hP6 : RSK.PZ H6 (acc ++ acc2) (prZ (partL zs ws)) := by
      have : prZ (partL zs ws) = prZ (zs.filter fun y => !idD ws y) ++ prZ (ws.filter fun y => !idD zs y) := List.map_append ..
      rw [this]
      exact (hP3.same s6).app (hP5.same s6)
    have s06 := s3.trans (s5.trans s6)
    have hl6 := hP6.len
    rw [hPl] at hl6
    clear hP hP3 hP5 hDa hDa5 hDb s6 s5 s3 s2 hv2
    walk_at "rds"
    refine RD.ite_d (fun h0 => ?_) (fun h0 => ?_)
    · have hne : partL zs ws ≠ [] := fun e => by
        rw [e] at hl6
        have h0 : (0 : Int) < ((acc ++ acc2).length : Int) := h0
        rw [hl6] at h0
        simp at h0
      walk_at "rds"
      refine MKD.minZV (.inl (.inl h6)) hP6 (fun e => hne (List.map_eq_nil_iff.mp e)) fun t0 b hb hle ht0 => ?_
      obtain ⟨y, hy, rfl⟩ := List.mem_map.mp hb
      walk_at "rds"
      refine RD.ixT (.inl (.inl ht0)) rfl ?_
      walk_at "rds"
      exact q2 y _ hy (fun y2 hy2 => hle _ (List.mem_map.mpr ⟨y2, hy2, rfl⟩)) s06
    · have he : partL zs ws = [] := List.eq_nil_of_length_eq_zero (by
        rw [← hl6]
        have h0 : ¬ (0 : Int) < ((acc ++ acc2).length : Int) := h0
        omega)
      walk_at "rds"
      exact q1 he _ s06
end


end K27

namespace K27
open PySem PySem.Spec PyProof.Rows L2
local macro_rules | `(tactic| walk_at "kd") => `(tactic| first | assumption | exact SPD.KdOf.int _ | exact SPD.KdOf.str _ | exact SPD.KdOf.bl _ | exact SPD.KdOf.non | exact SPD.KdOf.same (by assumption) (by walk_at "kd") | exact SPD.KdOf.tup (by walk_at "hp") | exact SPD.KdOf.lst (by walk_at "hp") | fail "no")
local macro_rules | `(tactic| walk_at "ne") => `(tactic| first | assumption | exact Ne.symm (by assumption) | fail "no")
local macro_rules | `(tactic| walk_at "hp") => `(tactic| first | assumption | exact RD.at_same (by assumption) (by walk_at "hp") | exact RD.at_kb (by assumption) (by walk_at "ne") (by walk_at "hp") | fail "no")
local macro_rules | `(tactic| walk_at "sq") => `(tactic| first | assumption | exact Or.inl (Or.inl (by walk_at "hp")) | exact Same.seq (by assumption) (by walk_at "sq") | exact RD.KB.seq (by assumption) (by walk_at "ne") (by walk_at "sq") | fail "no")
local macro_rules | `(tactic| walk_at "st") => `(tactic| first | assumption | exact Or.inl (Or.inl (by walk_at "hp")) | exact RD.Same.tup (by assumption) (by walk_at "st") | exact RD.KB.tup (by assumption) (by walk_at "ne") (by walk_at "st") | fail "no")
local macro_rules | `(tactic| walk_at "rd") => `(tactic| first
  | with_reducible refine RD.c ?_
  | ((with_reducible refine' RD.var ?rdE ?rdK); (case rdE => exact rfl))
  | with_reducible refine RD.op ?_
  | with_reducible refine RD.un ?_
  | with_reducible refine RD.nil ?_
  | with_reducible refine RD.cons ?_
  | with_reducible refine RD.cb ?_
  | with_reducible refine RD.call ?_
  | with_reducible refine RD.test ?_
  | with_reducible refine RD.tb' ?_
  | with_reducible refine RD.bl ?_
  | with_reducible refine RD.and' ?_
  | with_reducible refine RD.or' ?_
  | with_reducible refine RD.not' ?_
  | with_reducible refine RD.andV ?_
  | with_reducible refine RD.orV ?_
  | with_reducible refine RD.notV ?_
  | with_reducible refine RD.ife ?_
  | with_reducible refine RD.sl ?_
  | with_reducible refine RD.part ?_
  | with_reducible refine RD.noPart ?_
  | with_reducible refine RD.partI ?_
  | with_reducible refine RD.rd0 ?_
  | with_reducible refine RD.rdU ?_
  | ((with_reducible refine' RD.rdEq ?rdE ?rdK); (case rdE => rfl))
  | ((with_reducible refine' RD.rdNe ?rdE ?rdK); (case rdE => rfl))
  | ((with_reducible refine' RD.ixL ?rdH ?rdE ?rdK); (case rdH => walk_at "sq"); (case rdE => first | rfl | assumption))
  | ((with_reducible refine' RD.rdI ?rdC ?rdK); (case rdC => first | assumption | (show (0 : Int) < _; first | decide | omega) | exact ⟨by decide, by decide⟩ | exact ⟨by assumption, by assumption⟩ | exact .inr ⟨by decide, by decide⟩ | exact .inl ⟨by decide, by decide⟩ | exact ⟨by decide, by decide, by decide⟩ | exact .inl ⟨by omega, by omega⟩))
  | ((with_reducible refine' RD.setL ?rdH ?rdE ?rdK); (case rdH => walk_at "hp"); (case rdE => rfl); intro $(Lean.mkIdent `H'):ident $(Lean.mkIdent `hk):ident $(Lean.mkIdent `hv):ident)
  | ((with_reducible refine' RD.irng1V ?rdA ?rdB ?rdK); (case rdA => first | decide | omega); (case rdB => first | decide | omega))
  | with_reducible refine RD.int1 ?_
  | with_reducible refine RD.abs1 ?_
  | ((with_reducible refine' RD.len ?rdH ?rdK); (case rdH => first | exact Or.inl (by walk_at "sq") | exact Or.inr (by walk_at "st")))
  | with_reducible refine RD.tup ?_
  | with_reducible refine RD.lst ?_
  | with_reducible refine RD.ite1 ?_
  | with_reducible refine RD.ite0 ?_
  | with_reducible refine RD.ite1n ?_
  | with_reducible refine RD.ite0n ?_
  | with_reducible refine RD.seq ?_
  | with_reducible refine RD.asg ?_
  | with_reducible refine RD.name ?_
  | with_reducible refine RD.ret ?_
  | with_reducible refine RD.drop ?_
  | with_reducible refine RD.next ?_
  | with_reducible refine RD.ifs ?_
  | with_reducible refine RD.par ?_
  | with_reducible refine RD.par2 ?_
  | with_reducible refine RD.sub ?_
  | with_reducible refine RD.gcons ?_
  | with_reducible refine RD.gnil ?_
  | with_reducible refine RD.bm ?_
  | ((with_reducible refine' RD.bmL ?rdH ?rdK); (case rdH => walk_at "sq"))
  | ((with_reducible refine' RD.newZ ?rdH ?rdK); (case rdH => exact RD.sz _); intro $(Lean.mkIdent `p'):ident $(Lean.mkIdent `H'):ident $(Lean.mkIdent `hp):ident $(Lean.mkIdent `hs):ident $(Lean.mkIdent `hv):ident; (try have $(Lean.mkIdent `hn):ident := hand_ne $(Lean.mkIdent `hp):ident (by walk_at "hk")))
  | with_reducible refine RD.fors ?_
  | with_reducible refine RD.lc ?_
  | with_reducible refine RD.yes ?_
  | with_reducible refine RD.ilist ?_
  | ((with_reducible refine' RD.ilistV ?rdH ?rdK); (case rdH => walk_at "sq"))
  | with_reducible refine RD.itup ?_
  | ((with_reducible refine' RD.itupV ?rdH ?rdK); (case rdH => walk_at "st"))
  | with_reducible refine RD.irng1 ?_
  | with_reducible refine RD.irng2 ?_
  | ((with_reducible refine' RD.irng2V ?rdA ?rdK); (case rdA => first | decide | omega))
  | with_reducible refine RD.ienum ?_
  | ((with_reducible refine' RD.ienumV ?rdH ?rdK); (case rdH => walk_at "sq"))
  | with_reducible refine RD.izip ?_
  | ((with_reducible refine' RD.izipV ?rdH ?rdE ?rdK); (case rdH => walk_at "sq"); (case rdE => walk_at "sq"))
  | with_reducible refine SPD.izipA ?_
  | with_reducible refine RD.istr ?_
  | with_reducible refine RD.istrV ?_
  | ((with_reducible refine' RD.slL ?rdH ?rdK); (case rdH => walk_at "sq"); intro $(Lean.mkIdent `p'):ident $(Lean.mkIdent `H'):ident $(Lean.mkIdent `hp):ident $(Lean.mkIdent `hs):ident $(Lean.mkIdent `hv):ident; (try have $(Lean.mkIdent `hn):ident := hand_ne $(Lean.mkIdent `hp):ident (by walk_at "hk")))
  | ((with_reducible refine' RD.cat ?rdH ?rdE ?rdZ ?rdK); (case rdH => walk_at "hp"); (case rdE => walk_at "hp"); (case rdZ => exact RD.sz _); intro $(Lean.mkIdent `p'):ident $(Lean.mkIdent `H'):ident $(Lean.mkIdent `hp):ident $(Lean.mkIdent `hs):ident $(Lean.mkIdent `hv):ident; (try have $(Lean.mkIdent `hn):ident := hand_ne $(Lean.mkIdent `hp):ident (by walk_at "hk")))
  | ((with_reducible refine' RD.gtup ?rdH ?rdE ?rdK); (case rdH => walk_at "st"); (case rdE => rfl))
  | ((with_reducible refine' RD.app ?rdH ?rdZ ?rdK); (case rdH => walk_at "hp"); (case rdZ => first | assumption | (apply RD.szl; omega)); intro $(Lean.mkIdent `H'):ident $(Lean.mkIdent `hk):ident $(Lean.mkIdent `hv):ident)
  | ((with_reducible refine' RD.all1 ?rdH ?rdK); (case rdH => walk_at "sq"))
  | ((with_reducible refine' RD.any1 ?rdH ?rdK); (case rdH => walk_at "sq"))
  | ((with_reducible refine' SPD.dnew ?rdK); intro $(Lean.mkIdent `p'):ident $(Lean.mkIdent `H'):ident $(Lean.mkIdent `hp):ident $(Lean.mkIdent `hs):ident $(Lean.mkIdent `hv):ident; (try have $(Lean.mkIdent `hn):ident := hand_ne $(Lean.mkIdent `hp):ident (by walk_at "hk")))
  | ((with_reducible refine' SPD.disp1 ?rdK); intro $(Lean.mkIdent `p'):ident $(Lean.mkIdent `H'):ident $(Lean.mkIdent `hp):ident $(Lean.mkIdent `hs):ident $(Lean.mkIdent `hv):ident; (try have $(Lean.mkIdent `hn):ident := hand_ne $(Lean.mkIdent `hp):ident (by walk_at "hk")))
  | ((with_reducible refine' SPD.isSeq ?rdH ?rdE ?rdK); (case rdH => walk_at "hp"); (case rdE => walk_at "kd"))
  | ((with_reducible refine' SPD.isTup ?rdE ?rdK); (case rdE => walk_at "kd"))
  | ((with_reducible refine' SPD.isLst ?rdE ?rdK); (case rdE => walk_at "kd"))
  | ((with_reducible refine' SPD.isBool ?rdE ?rdK); (case rdE => walk_at "kd"))
  | ((with_reducible refine' SPD.isStr ?rdE ?rdK); (case rdE => walk_at "kd"))
  | ((with_reducible refine' SPD.isInt ?rdE ?rdK); (case rdE => walk_at "kd"))
  | dsimp only)
local macro_rules | `(tactic| walk_at "rds") => `(tactic| repeat walk_at "rd")
local macro_rules | `(tactic| walk_at "sm") => `(tactic| first | assumption | exact Same.refl _ | exact RD.sm_tr (by assumption) (by walk_at "sm") | fail "no")
local macro_rules | `(tactic| walk_at "kb") => `(tactic| first | assumption | exact RD.KB.refl | exact RD.kb_tr (by assumption) (by walk_at "kb") | exact RD.kb_trs (by assumption) (by walk_at "kb") | fail "no")
local macro_rules | `(tactic| walk_at "fr") => `(tactic| first | assumption | exact RD.fr_of (by assumption) (by walk_at "sm") | fail "no")
local macro_rules | `(tactic| walk_at "hk") => `(tactic| first | assumption | exact hand_same (by assumption) (by walk_at "hk") | exact hand_kb (by assumption) (by walk_at "fr") (by walk_at "hk") | fail "no")
local macro_rules | `(tactic| walk_at "na") => `(tactic| first | assumption | exact hand_ne (by assumption) (by walk_at "hk") | fail "no")
local macro_rules | `(tactic| walk_at "dqa") => `(tactic| first | exact SPD.DqA.nil | exact SPD.DqA.cons (by walk_at "dq") (by walk_at "dqa") | exact SPD.DqA.app (by walk_at "dqa") (by walk_at "dqa") | fail "no")
local macro_rules | `(tactic| walk_at "dq") => `(tactic| first | assumption | exact SPD.Dq.leaf rfl | exact SPD.dq_kb (by assumption) (by walk_at "kb") | exact SPD.dqTup (by walk_at "hp") (by walk_at "na") (by walk_at "dqa") | exact SPD.dqLst (by walk_at "hp") (by walk_at "na") (by walk_at "dqa") | exact SPD.dqNil (by walk_at "hp") (by walk_at "na") (by first | decide | simp) (by first | decide | simp) | fail "no")

local macro_rules | `(tactic| walk_at "rd") => `(tactic| first
  | with_reducible refine RB.chain ?_
  | with_reducible refine RB.m1 ?_
  | with_reducible refine RB.strE ?_
  | with_reducible refine RB.fld ?_
  | with_reducible refine RB.setF ?_
  | with_reducible refine RB.ss ?_
  | with_reducible refine RB.rev ?_
  | with_reducible refine RB.make ?_
  | with_reducible refine RB.makeS ?_
  | with_reducible refine RB.mkO ?_
  | with_reducible refine NR.ienumT ?_
  | with_reducible refine RB.inS ?_
  | with_reducible refine RB.bmS ?_
  | with_reducible refine RB.callS ?_
  | with_reducible refine RB.sw3 ?_
  | with_reducible refine RB.par3 ?_
  | with_reducible refine RB.par3V ?_
  | ((with_reducible refine' RB.slS ?rdH ?rdK); (case rdH => walk_at "sz"))
  | with_reducible refine RB.xf ?_
  | ((with_reducible refine' RB.xfV ?rdH ?rdE ?rdK); (case rdH => walk_at "hp"); (case rdE => rfl))
  | ((with_reducible refine' NR.ienumTV ?rdH ?rdK); (case rdH => walk_at "st"))
  | ((with_reducible refine' RB.lenL ?rdH ?rdK); (case rdH => walk_at "sq"))
  | ((with_reducible refine' RB.lenT ?rdH ?rdK); (case rdH => walk_at "st"))
  | ((with_reducible refine' RB.lenS ?rdH ?rdK); (case rdH => walk_at "sz"))
  | ((with_reducible refine' RD.lenS ?rdH ?rdK); (case rdH => walk_at "sz"))
  | ((with_reducible refine' RB.slT ?rdH ?rdK); (case rdH => walk_at "hp"); intro $(Lean.mkIdent `p'):ident $(Lean.mkIdent `H'):ident $(Lean.mkIdent `hs):ident $(Lean.mkIdent `hv):ident $(Lean.mkIdent `hp):ident; (try have $(Lean.mkIdent `hn):ident := two_ne $(Lean.mkIdent `hp):ident (by walk_at "na") (by walk_at "hk")))
  | ((with_reducible refine' RB.revV ?rdH ?rdK); (case rdH => walk_at "st"); intro $(Lean.mkIdent `p'):ident $(Lean.mkIdent `H'):ident $(Lean.mkIdent `hp):ident $(Lean.mkIdent `hs):ident $(Lean.mkIdent `hv):ident; (try have $(Lean.mkIdent `hn):ident := hand_ne $(Lean.mkIdent `hp):ident (by walk_at "hk")))
  | ((with_reducible refine' RB.listS ?rdH ?rdK); (case rdH => walk_at "sz"); intro $(Lean.mkIdent `p'):ident $(Lean.mkIdent `H'):ident $(Lean.mkIdent `hp):ident $(Lean.mkIdent `hs):ident $(Lean.mkIdent `hv):ident; (try have $(Lean.mkIdent `hn):ident := hand_ne $(Lean.mkIdent `hp):ident (by walk_at "hk")))
  | ((with_reducible refine' RB.listO ?rdH ?rdK); (case rdH => first | exact Or.inl (by walk_at "sq") | exact Or.inr (by walk_at "st")); intro $(Lean.mkIdent `p'):ident $(Lean.mkIdent `H'):ident $(Lean.mkIdent `hp):ident $(Lean.mkIdent `hs):ident $(Lean.mkIdent `hv):ident; (try have $(Lean.mkIdent `hn):ident := hand_ne $(Lean.mkIdent `hp):ident (by walk_at "hk")))
  | ((with_reducible refine' RB.tupL ?rdH ?rdK); (case rdH => walk_at "sq"); intro $(Lean.mkIdent `p'):ident $(Lean.mkIdent `H'):ident $(Lean.mkIdent `hp):ident $(Lean.mkIdent `hs):ident $(Lean.mkIdent `hv):ident; (try have $(Lean.mkIdent `hn):ident := hand_ne $(Lean.mkIdent `hp):ident (by walk_at "hk")))
  | ((with_reducible refine' RB.catT ?rdH ?rdE ?rdZ ?rdK); (case rdH => walk_at "hp"); (case rdE => walk_at "hp"); (case rdZ => exact RB.LN.sum (by walk_at "ln") (by walk_at "ln") rfl); intro $(Lean.mkIdent `p'):ident $(Lean.mkIdent `H'):ident $(Lean.mkIdent `hs):ident $(Lean.mkIdent `hv):ident $(Lean.mkIdent `hp):ident; (try have $(Lean.mkIdent `hn):ident := three_ne $(Lean.mkIdent `hp):ident (by walk_at "na") (by walk_at "na") (by walk_at "hk")))
  | fail "no")
local macro_rules | `(tactic| walk_at "ln") => `(tactic| first | with_reducible assumption | exact RB.LN.cut (by walk_at "ln") | exact RB.LN.app (by walk_at "ln") (by walk_at "ln") | exact RB.LN.rev (by walk_at "ln") | exact RB.LN.rep (by walk_at "ln") | exact RB.LN.lit rfl | fail "no")
local macro_rules | `(tactic| walk_at "sz") => `(tactic| first | assumption | exact RD.sz _ | fail "no")

local macro_rules | `(tactic| walk_at "dk") => `(tactic| first | exact FR.rd_of (by walk_at "hp") | exact Or.inr ⟨_, by walk_at "hp"⟩ | fail "no")
local macro_rules | `(tactic| walk_at "rd") => `(tactic| first
  | with_reducible refine FR.dget ?_
  | with_reducible refine FR.din ?_
  | with_reducible refine FR.dnotin ?_
  | with_reducible refine FR.dc ?_
  | with_reducible refine FR.ikeys ?_
  | with_reducible refine FR.ivals ?_
  | with_reducible refine FR.bm0 ?_
  | ((with_reducible refine' FR.dinS ?rdH ?rdK); (case rdH => walk_at "dk"))
  | ((with_reducible refine' FR.keysV ?rdH ?rdK); (case rdH => walk_at "hp"))
  | ((with_reducible refine' FR.valsV ?rdH ?rdK); (case rdH => walk_at "hp"))
  | ((with_reducible refine' FR.bmD ?rdH ?rdK); (case rdH => walk_at "hp"))
  | with_reducible refine FR.ckw ?_
  | with_reducible refine FR.dget2 ?_
  | ((with_reducible refine' FR.isdV ?rdH ?rdK); (case rdH => walk_at "dk"))
  | ((with_reducible refine' FR.dg2S ?rdH ?rdK); (case rdH => walk_at "dk"))
  | ((with_reducible refine' FR.lenD ?rdH ?rdK); (case rdH => walk_at "hp"))
  | fail "no")

local macro_rules | `(tactic| walk_at "rd") => `(tactic| first
  | with_reducible refine BH.iitems ?_
  | with_reducible refine BH.revl ?_
  | ((with_reducible refine' BH.dg2I ?rdH ?rdK); (case rdH => walk_at "dk"))
  | ((with_reducible refine' BH.catN ?rdH ?rdE ?rdZ ?rdK); (case rdH => walk_at "hp"); (case rdE => walk_at "hp"); (case rdZ => assumption); intro $(Lean.mkIdent `p'):ident $(Lean.mkIdent `H'):ident $(Lean.mkIdent `hs):ident $(Lean.mkIdent `hv):ident)
  | fail "no")

/-! ### all short idle logs -/
def sL (l : List Nat) : Str := ⟨l.toArray⟩
theorem tl_sL (w : List Nat) : tl (sL w) = w := by
  unfold tl sL
  simp
theorem tl_size (w : Str) : (tl w).length = w.cps.size := Array.length_toList
theorem tl_take (z : Str) (i : Nat) : tl (cutS z none (some (i : Int))) = (tl z).take i := by
  show ((tl z).drop (HT.sIx z.length 0 none)).take (HT.sIx z.length z.length (some (i : Int)) - HT.sIx z.length 0 none) = _
  rw [HT.sIx_none, HT.sIx_nat, List.drop_zero, Nat.sub_zero]
  have e : z.length = (tl z).length := Array.length_toList.symm
  rw [e]
  rcases Nat.le_total i (tl z).length with h | h
  · rw [Nat.min_eq_left h]
  · rw [Nat.min_eq_right h, List.take_length, List.take_of_length_le h]
theorem tl_app (a b : Str) : tl (a ++ b) = tl a ++ tl b := by
  show (a.cps ++ b.cps).toList = _
  simp [tl]
def ttZ (F : List Str) : List (Key × V) := FR.kvm id (fun _ => .bl true) F
theorem ttZ_in (F : List Str) (z : Str) : (valV (ttZ F) (Sum.inr z)).isSome = decide (z ∈ F) := by
  unfold ttZ
  rw [FR.kvm_some, List.map_id]
theorem ttZ_put {F : List Str} {z : Str} (h : z ∉ F) : putK (ttZ F) (Sum.inr z) (.bl true) = ttZ (F ++ [z]) := FR.kvm_put (k := id) (v := fun _ => V.bl true) (a := z) (by rw [List.map_id]; exact h)
theorem ttZ_len (F : List Str) : (ttZ F).length = F.length := FR.kvm_len ..
theorem ttZ_keys (F : List Str) : ((ttZ F).map fun kv => kV kv.1) = F.map V.str := by
  unfold ttZ FR.kvm
  rw [List.map_map]
  rfl
def putZ (z y : Str) (p : Nat) : Str := (cutS z none (some (p : Int)) ++ y) ++ cutS z (some (p : Int)) none
theorem tl_putZ (z y : Str) (p : Nat) : tl (putZ z y p) = (tl z).take p ++ tl y ++ (tl z).drop p := by
  unfold putZ
  rw [tl_app, tl_app, tl_take, tl_drop]
theorem putZ_size (z y : Str) {p : Nat} : (putZ z y p).cps.size = z.cps.size + y.cps.size := by
  rw [← tl_size, tl_putZ, List.length_append, List.length_append, List.length_take, List.length_drop, tl_size, tl_size]
  omega
/-- what is found (F), what waits (W); D: what has been put into wd -/
structure GrowZ (zs : List Str) (m : Nat) (F W : List Str) (wd : Str) (D : Str → Nat → Prop) : Prop where
  once : F.Nodup
  wonce : W.Nodup
  sub : ∀ w, w ∈ W → w ∈ F
  nil : ("" : Str) ∈ F
  idle : ∀ w, w ∈ F → IL.Idle (tls zs) (tl w) ∧ w.cps.size ≤ m
  done : ∀ w, w ∈ F → w ∉ W → ∀ y, y ∈ zs → ∀ p, p ≤ w.cps.size → w.cps.size + y.cps.size ≤ m → (w = wd → D y p) → putZ w y p ∈ F
theorem GrowZ.start (zs : List Str) (m : Nat) (wd : Str) (D : Str → Nat → Prop) : GrowZ zs m [""] [""] wd D :=
  ⟨by simp, by simp, fun w h => h, by simp, fun w h => by
    obtain rfl : w = "" := by simpa using h
    exact ⟨.nil, Nat.zero_le _⟩, fun w h hn => absurd h hn⟩
theorem GrowZ.pop {zs : List Str} {m : Nat} {F W : List Str} {wd wd' : Str} {D : Str → Nat → Prop} (g : GrowZ zs m F (W ++ [wd']) wd D) (hD : ∀ y, y ∈ zs → ∀ p, p ≤ wd.cps.size → D y p) (h : wd ∉ W ++ [wd'] ∨ True) : GrowZ zs m F W wd' fun _ _ => False := by
  have hn := g.wonce
  rw [List.nodup_append] at hn
  refine ⟨g.once, hn.1, fun w hw => g.sub w (List.mem_append_left _ hw), g.nil, g.idle, fun w hw hnw y hy p hp hs hne => ?_⟩
  by_cases e : w = wd'
  · exact (hne e).elim
  · exact g.done w hw (fun hm => by
      rcases List.mem_append.mp hm with h1 | h1
      · exact hnw h1
      · exact e (by simpa using h1)) y hy p hp hs fun e2 => hD y hy p (by rw [← e2]; exact hp)
/-- put in: new, known, or too long -/
theorem GrowZ.skip {zs : List Str} {m : Nat} {F W : List Str} {wd y0 : Str} {p0 : Nat} {D : Str → Nat → Prop} (g : GrowZ zs m F W wd D) (h : wd.cps.size + y0.cps.size ≤ m → putZ wd y0 p0 ∈ F) : GrowZ zs m F W wd fun y p => D y p ∨ (y = y0 ∧ p = p0) := by
  refine ⟨g.once, g.wonce, g.sub, g.nil, g.idle, fun w hw hnw y hy p hp hs hne => ?_⟩
  by_cases e : w = wd
  · rcases hne e with h1 | ⟨h1, h2⟩
    · exact g.done w hw hnw y hy p hp hs fun _ => h1
    · subst e h1 h2
      exact h hs
  · exact g.done w hw hnw y hy p hp hs fun e2 => absurd e2 e
theorem GrowZ.add {zs : List Str} {m : Nat} {F W : List Str} {wd y0 : Str} {p0 : Nat} {D : Str → Nat → Prop} (g : GrowZ zs m F W wd D) (hwd : wd ∈ F) (hy0 : y0 ∈ zs) (hp0 : p0 ≤ wd.cps.size) (hs0 : wd.cps.size + y0.cps.size ≤ m) (hn : putZ wd y0 p0 ∉ F) : GrowZ zs m (F ++ [putZ wd y0 p0]) (W ++ [putZ wd y0 p0]) wd fun y p => D y p ∨ (y = y0 ∧ p = p0) := by
  have nd : ∀ l : List Str, l.Nodup → putZ wd y0 p0 ∉ l → (l ++ [putZ wd y0 p0]).Nodup := fun l h1 h2 => by
    rw [List.nodup_append]
    exact ⟨h1, by simp, fun a ha b hb e => h2 (by
      obtain rfl : b = putZ wd y0 p0 := by simpa using hb
      rw [← e]
      exact ha)⟩
  refine ⟨nd _ g.once hn, nd _ g.wonce fun h => hn (g.sub _ h), fun w hw => ?_, List.mem_append_left _ g.nil, fun w hw => ?_, fun w hw hnw y hy p hp hs hne => ?_⟩
  · rcases List.mem_append.mp hw with h | h
    · exact List.mem_append_left _ (g.sub w h)
    · exact List.mem_append_right _ h
  · rcases List.mem_append.mp hw with h | h
    · exact g.idle w h
    · obtain rfl : w = putZ wd y0 p0 := by simpa using h
      refine ⟨?_, by rw [putZ_size]; exact hs0⟩
      rw [tl_putZ]
      exact .put (List.mem_map.mpr ⟨y0, hy0, rfl⟩) (by rw [List.take_append_drop]; exact (g.idle wd hwd).1)
  · rcases List.mem_append.mp hw with h | h
    · by_cases e : w = wd
      · rcases hne e with h1 | ⟨h1, h2⟩
        · exact List.mem_append_left _ (g.done w h (fun z => hnw (List.mem_append_left _ z)) y hy p hp hs fun _ => h1)
        · subst e h1 h2
          exact List.mem_append_right _ (by simp)
      · exact List.mem_append_left _ (g.done w h (fun z => hnw (List.mem_append_left _ z)) y hy p hp hs fun e2 => absurd e2 e)
    · exact absurd (List.mem_append_right _ h) hnw
theorem GrowZ.whole {zs : List Str} {m : Nat} {F : List Str} {wd : Str} {D : Str → Nat → Prop} (g : GrowZ zs m F [] wd D) (hD : ∀ y, y ∈ zs → ∀ p, p ≤ wd.cps.size → D y p) (w : Str) : w ∈ F ↔ IL.Idle (tls zs) (tl w) ∧ w.cps.size ≤ m := by
  refine ⟨g.idle w, fun ⟨h1, h2⟩ => ?_⟩
  have key : ∀ L : List Nat, IL.Idle (tls zs) L → L.length ≤ m → sL L ∈ F := by
    intro L h
    induction h with
    | nil => exact fun _ => g.nil
    | @put u v p hp _ ih =>
      intro hl
      rw [List.length_append, List.length_append] at hl
      have h3 := ih (by rw [List.length_append]; omega)
      obtain ⟨y, hy, rfl⟩ := tls_mem.mp hp
      have hsz : (sL (u ++ v)).cps.size = u.length + v.length := by rw [← tl_size, tl_sL, List.length_append]
      have h4 := g.done _ h3 (List.not_mem_nil) y hy u.length (by omega) (by rw [hsz, ← tl_size y]; omega) fun e => hD y hy _ (by rw [← e]; omega)
      have e : putZ (sL (u ++ v)) y u.length = sL (u ++ tl y ++ v) := tl_inj (by rw [tl_putZ, tl_sL, tl_sL, List.take_left, List.drop_left])
      rw [← e]
      exact h4
  have := key (tl w) h1 (by rw [tl_size]; exact h2)
  have e : sL (tl w) = w := tl_inj (tl_sL _)
  rw [← e]
  exact this
def spGrownZ : Sp := fun vs H Q _ => ∃ (t : Addr) (zs : List Str) (m N : Nat), vs = [.ref t, .int (m : Int)] ∧ H t = some (.tup (zs.map V.str)) ∧ Good zs ∧ m ≤ 20 ∧ N ≤ 2000 ∧ (∀ F : List Str, F.Nodup → (∀ w, w ∈ F → IL.Idle (tls zs) (tl w) ∧ w.cps.size ≤ m) → F.length ≤ N) ∧
  ∀ d F H', H d = none → Same H H' → H' d = some (.dK (ttZ F)) → F.Nodup → (∀ w, w ∈ F ↔ IL.Idle (tls zs) (tl w) ∧ w.cps.size ≤ m) → Q (.ref d) H'
section
variable {P : Program} {w : World} {K : PySem.W.Frag} {mg : Str → Option Value} {base : Heap}
theorem ok_grown (T : Txt P K mg) : FnOk P w K mg base CX0 1 T.a_grown T.fd_grown ["_law_pieces", "_law_most"] spGrownZ := by
  have nd := sc_grown.nd
  refine T.F_grown.ok sc_grown (fun vs H Q E h => ?_) (fun cdv A outer s H vs Q E hr h => ?_)
  · obtain ⟨t, zs, m, N, rfl, _⟩ := h
    rfl
  · obtain ⟨t, zs, m, N, rfl, ht, g, hm, hN0, hN, q⟩ := h
    refine ⟨_, (pss_cons (ps_par (i := 2) (j := 3) rfl nd rfl rfl (by decide) rfl rfl (pa_cons (pe_disp (pps_cons pe_str pe_bl pps_nil) (by rfl) (by rfl) (fun z => by cases z) (by decide)) (pa_cons (pe_lst (pa_cons pe_str pa_nil)) pa_nil)) (by rfl))
  (pss_cons (ps_while PassesOwn.never (pt_cmpR op_gt (pe_callB call_len_seq (by rfl) T.m_len PySem.boot_len (pa_cons (pv 3) pa_nil)) pe_int (nomark _))
    (pss_cons (ps_set (i := 4) nd rfl (by first | exact Or.inl rfl | exact Or.inr rfl) (pe_bm0 PySem.F.plainAttrs_list PySem.F.slot_list_pop PySem.F.type_list_pop mt_pop (pv 3)))
  (pss_one (ps_for PassesOwn.never rfl (pi_tup (pv 0)) (pg_name (i := 5) nd rfl (by first | exact Or.inl rfl | exact Or.inr rfl))
    (pss_one (ps_for PassesOwn.never rfl (pi_range1 (by rfl) T.m_range (pa_cons (pe_op op_add (pe_callB call_len_str (by rfl) T.m_len PySem.boot_len (pa_cons (pv 4) pa_nil)) pe_int) pa_nil)) (pg_name (i := 6) nd rfl (by first | exact Or.inl rfl | exact Or.inr rfl))
    (pss_cons (ps_set (i := 7) nd rfl (by first | exact Or.inl rfl | exact Or.inr rfl) (pe_op op_add_str (pe_op op_add_str (pe_slice sl_str (pv 4) po_none (po_some (pv 6))) (pv 5)) (pe_slice sl_str (pv 4) (po_some (pv 6)) po_none)))
  (pss_one (ps_if (PW.pt (pw_and (pt_cmpR op_le (pe_callB call_len_str (by rfl) T.m_len PySem.boot_len (pa_cons (pv 7) pa_nil)) (pv 1) (nomark _)) (pw_and1 (pt_cmp (pc_dnotin (SPE.room1 hr) (pv 7) (pv 2))))))
    (pss_cons (ps_asg pe_bl (pg_sub (pv 2) (pv 7) (set_dict (SPE.room1 hr))))
  (pss_one (ps_expr (pe_bm PySem.F.plainAttrs_list PySem.F.slot_list_append PySem.F.type_list_append mt_append (pv 3) (pa_cons (pv 7) pa_nil)))))
    pss_nil)))))))))
  (pss_one (ps_ret (pv 2))))), ?_⟩
    have hlm : (zs.map V.str).length = zs.length := List.length_map ..
    have g12 := g.few
    walk_at "rds"
    rename_i d Hd hd sd hvd
    have s1 : Same H H' := sd.trans hs
    have hd1 : H' d = some (.dK (ttZ [""])) := hs _ _ hvd
    have hq1 : H' p' = some (.lst (([""] : List Str).map V.str)) := hv
    have hqH : H p' = none := sd.free hp
    have ndq : d ≠ p' := ne_of_none hvd hp
    clear hv hs hp sd hvd
    generalize p' = qa at hq1 hqH ndq ⊢
    generalize H' = H1 at s1 hd1 hq1 ⊢
    refine FR.whileG (fun n σ H' => ∃ (F W' : List Str) (wd : Str) (D : Str → Nat → Prop) (x4 x5 x6 x7 : Option V), σ = [some (.ref t), some (.int (m : Int)), some (.ref d), some (.ref qa), x4, x5, x6, x7] ∧ Same H H' ∧ H' d = some (.dK (ttZ F)) ∧ H' qa = some (.lst (W'.map V.str)) ∧ GrowZ zs m F W' wd D ∧ (∀ y, y ∈ zs → ∀ p, p ≤ wd.cps.size → D y p) ∧ n = (N + 1 - F.length) * 2 + W'.length) _
      ⟨[""], [""], "", fun _ _ => True, _, _, _, _, rfl, s1, hd1, hq1, GrowZ.start zs m "" _, fun _ _ _ _ => trivial, rfl⟩ (fun n σ H2 p => ?_)
    obtain ⟨F, W', wd0, D0, x4, x5, x6, x7, rfl, s2, hd2, hq2, gr, hD0, rfl⟩ := p
    clear s1 hd1 hq1
    have hFN := hN F gr.once gr.idle
    have hWF : W'.length ≤ F.length := FL.sub_len gr.wonce gr.sub
    walk_at "rds"
    refine RD.ite_d (fun hpos => ?_) (fun hpos => ?_)
    · rw [List.length_map] at hpos
      obtain ⟨W2, wd, rfl⟩ : ∃ (W2 : List Str) (wd : Str), W' = W2 ++ [wd] := by
        rcases List.eq_nil_or_concat W' with e | ⟨r, a, e⟩
        · rw [e] at hpos
          exact absurd hpos (by decide)
        · exact ⟨r, a, by rw [e, List.concat_eq_append]⟩
      have hwF := gr.sub wd (by simp)
      have hwm := (gr.idle wd hwF).2
      have gr2 := gr.pop hD0 (.inr trivial)
      rw [List.length_append, List.length_singleton] at hWF
      have hwl : wd.length = wd.cps.size := rfl
      have hwsl : wd.length ≤ sizeLine := RD.szo (by omega)
      refine FR.wnext ?_
      rw [List.map_append] at hq2
      walk_at "rds"
      refine FR.popV hq2 fun H3 k3 hq3 => ?_
      have hd3 := k3 _ _ ndq hd2
      have s3 : Same H H3 := RD.same_mut k3 s2 hqH
      clear hd2 hq2 s2 k3 gr hD0
      have ht3 := s3 _ _ ht
      walk_at "rds"
      refine RD.forW (walk_tup (xs := zs.map V.str)) (fun j σ H' => ∃ (F2 W3 : List Str) (D : Str → Nat → Prop) (x5 x6 x7 : Option V), σ = [some (.ref t), some (.int (m : Int)), some (.ref d), some (.ref qa), some (.str wd), x5, x6, x7] ∧ Same H H' ∧ H' d = some (.dK (ttZ F2)) ∧ H' qa = some (.lst (W3.map V.str)) ∧ GrowZ zs m F2 W3 wd D ∧ wd ∈ F2 ∧ (∀ y, y ∈ zs.take j → ∀ p, p ≤ wd.cps.size → D y p) ∧ (N + 1 - F2.length) * 2 + W3.length ≤ (N + 1 - F.length) * 2 + W2.length)
        ⟨F, W2, _, _, _, _, rfl, s3, hd3, hq3, gr2, hwF, fun y hy => by simp at hy, Nat.le_refl _⟩ (fun j σ H' _ ⟨_, _, _, _, _, _, _, s, _⟩ => .inl (.inl (s _ _ ht))) (fun j v σ H4 H5 hj hp hy => ?_) (fun σ H4 hp => ?_)
      · obtain ⟨F2, W3, D, x5, x6, x7, rfl, s4, hd4, hq4, gr4, hw4, hD4, hme⟩ := hp
        obtain ⟨rfl, hx⟩ := hy
        rw [List.getElem?_map] at hx
        obtain ⟨y, hyj, rfl⟩ := Option.map_eq_some_iff.mp hx
        have hyz := List.mem_of_getElem? hyj
        have hy8 := piece_size (g.piece y hyz)
        have hyl : y.length = y.cps.size := rfl
        have etk : zs.take (j + 1) = zs.take j ++ [y] := by rw [List.take_add_one, hyj]; rfl
        clear hd3 hq3 gr2 s3 ht3
        walk_at "rds"
        refine RD.forW (walk_range (lo := 0) (n := Int.toNat ((wd.length : Int) + 1))) (fun a σ H' => ∃ (F2 W3 : List Str) (D : Str → Nat → Prop) (x6 x7 : Option V), σ = [some (.ref t), some (.int (m : Int)), some (.ref d), some (.ref qa), some (.str wd), some (.str y), x6, x7] ∧ Same H H' ∧ H' d = some (.dK (ttZ F2)) ∧ H' qa = some (.lst (W3.map V.str)) ∧ GrowZ zs m F2 W3 wd D ∧ wd ∈ F2 ∧ (∀ y, y ∈ zs.take j → ∀ p, p ≤ wd.cps.size → D y p) ∧ (∀ p, p < a → D y p) ∧ (N + 1 - F2.length) * 2 + W3.length ≤ (N + 1 - F.length) * 2 + W2.length)
          ⟨F2, W3, D, _, _, rfl, s4, hd4, hq4, gr4, hw4, hD4, fun p h => absurd h (Nat.not_lt_zero _), hme⟩ (fun _ _ _ _ _ => trivial) (fun a v σ H6 H7 ha hp hy => ?_) (fun σ H6 hp => ?_)
        · clear s4 hd4 hq4 gr4 hw4 hD4 hme
          obtain ⟨F2, W3, D, x6, x7, rfl, s6, hd6, hq6, gr6, hw6, hD6, hDa, hme⟩ := hp
          obtain ⟨rfl, rfl⟩ := hy
          rw [show (fun i : Nat => V.int (0 + (i : Int))) a = V.int (a : Int) from congrArg V.int (Int.zero_add _)]
          have hF6 := hN F2 gr6.once gr6.idle
          have hW6 : W3.length ≤ F2.length := FL.sub_len gr6.wonce gr6.sub
          have ha2 : a ≤ wd.cps.size := by omega
          have c1 := cut_size wd none (some (a : Int))
          have c2 := cut_size wd (some (a : Int)) none
          have el : ∀ x : Str, x.length = x.cps.size := fun _ => rfl
          have ap : ∀ x y : Str, (x ++ y).cps.size = x.cps.size + y.cps.size := app_size
          have hps := putZ_size wd y (p := a)
          have hpl : (putZ wd y a).length ≤ sizeLine := RD.szo (by rw [el]; omega)
          have next : ∀ {D' : Str → Nat → Prop}, (∀ y2 p, D y2 p ∨ (y2 = y ∧ p = a) → D' y2 p) → (∀ y2, y2 ∈ zs.take j → ∀ p, p ≤ wd.cps.size → D' y2 p) ∧ ∀ p, p < a + 1 → D' y p := fun hd' => ⟨fun y2 h p hp => hd' _ _ (.inl (hD6 y2 h p hp)), fun p hp => by
            rcases Nat.lt_or_ge p a with h | h
            · exact hd' _ _ (.inl (hDa p h))
            · exact hd' _ _ (.inr ⟨rfl, by omega⟩)⟩
          walk_at "rds"
          refine RB.addS (RD.szo (by rw [el, el]; omega)) ?_
          walk_at "rds"
          refine RB.addS (RD.szo (by rw [el, el, ap]; omega)) ?_
          show gName 7 (V.str (putZ wd y a)) _ _ _
          have hpe : (putZ wd y a).length = (putZ wd y a).cps.size := rfl
          generalize hpz : putZ wd y a = pz at hps hpl hpe ⊢
          walk_at "rds"
          refine RD.ite_d (fun hle => ?_) (fun hle => ?_)
          · walk_at "rds"
            rw [show (valV (ttZ F2) (Sum.inr pz)).isSome = decide (pz ∈ F2) from ttZ_in F2 pz]
            refine RD.ite_nd (fun hin => ?_) (fun hin => ?_)
            · have gr7 := gr6.add hw6 hyz ha2 (by omega) (by rw [hpz]; exact hin)
              rw [hpz] at gr7
              have hF7 := hN _ gr7.once gr7.idle
              rw [List.length_append, List.length_singleton] at hF7
              walk_at "rds"
              refine FR.dputS hd6 (RD.szl (by rw [ttZ_len]; omega)) fun H8 k8 h8 => ?_
              rw [ttZ_put hin] at h8
              have hq8 := k8 _ _ ndq.symm hq6
              have s8 : Same H H8 := RD.same_mut k8 s6 hd
              have hql : (W3.map V.str).length ≤ 2000 := by rw [List.length_map]; omega
              clear hd6 hq6
              walk_at "rds"
              have nx := next (D' := fun y2 p => D y2 p ∨ (y2 = y ∧ p = a)) fun _ _ h => h
              exact ⟨F2 ++ [pz], W3 ++ [pz], _, _, _, rfl, RD.same_mut hk s8 hqH, hk _ _ ndq h8, by rw [hv, List.map_append]; rfl, gr7, List.mem_append_left _ hw6, nx.1, nx.2, by rw [List.length_append, List.length_append, List.length_singleton]; omega⟩
            · walk_at "rds"
              have gr7 := gr6.skip (y0 := y) (p0 := a) fun _ => by rw [hpz]; exact hin
              have nx := next (D' := fun y2 p => D y2 p ∨ (y2 = y ∧ p = a)) fun _ _ h => h
              exact ⟨F2, W3, _, _, _, rfl, s6, hd6, hq6, gr7, hw6, nx.1, nx.2, hme⟩
          · walk_at "rds"
            have gr7 := gr6.skip (y0 := y) (p0 := a) fun hs => absurd hs (by omega)
            have nx := next (D' := fun y2 p => D y2 p ∨ (y2 = y ∧ p = a)) fun _ _ h => h
            exact ⟨F2, W3, _, _, _, rfl, s6, hd6, hq6, gr7, hw6, nx.1, nx.2, hme⟩
        · obtain ⟨F2, W3, D, x6, x7, rfl, s6, hd6, hq6, gr6, hw6, hD6, hDa, hme⟩ := hp
          refine ⟨F2, W3, D, _, _, _, rfl, s6, hd6, hq6, gr6, hw6, fun y2 hy2 p hp => ?_, hme⟩
          rw [etk] at hy2
          rcases List.mem_append.mp hy2 with h | h
          · exact hD6 y2 h p hp
          · obtain rfl : y2 = y := by simpa using h
            exact hDa p (by omega)
      · obtain ⟨F2, W3, D, x5, x6, x7, rfl, s4, hd4, hq4, gr4, hw4, hD4, hme⟩ := hp
        rw [hlm, List.take_length] at hD4
        refine ⟨(N + 1 - F2.length) * 2 + W3.length, ?_, F2, W3, wd, D, _, _, _, _, rfl, s4, hd4, hq4, gr4, hD4, rfl⟩
        rw [List.length_append, List.length_singleton]
        omega
    · have e : W' = [] := by
        rw [List.length_map] at hpos
        exact List.eq_nil_of_length_eq_zero (by omega)
      subst e
      walk_at "rds"
      exact q d F _ hd s2 hd2 gr.once (gr.whole hD0)
end


end K27

namespace K27
open PySem PySem.Spec PyProof.Rows L2
local macro_rules | `(tactic| walk_at "kd") => `(tactic| first | assumption | exact SPD.KdOf.int _ | exact SPD.KdOf.str _ | exact SPD.KdOf.bl _ | exact SPD.KdOf.non | exact SPD.KdOf.same (by assumption) (by walk_at "kd") | exact SPD.KdOf.tup (by walk_at "hp") | exact SPD.KdOf.lst (by walk_at "hp") | fail "no")
local macro_rules | `(tactic| walk_at "ne") => `(tactic| first | assumption | exact Ne.symm (by assumption) | fail "no")
local macro_rules | `(tactic| walk_at "hp") => `(tactic| first | assumption | exact RD.at_same (by assumption) (by walk_at "hp") | exact RD.at_kb (by assumption) (by walk_at "ne") (by walk_at "hp") | fail "no")
local macro_rules | `(tactic| walk_at "sq") => `(tactic| first | assumption | exact Or.inl (Or.inl (by walk_at "hp")) | exact Same.seq (by assumption) (by walk_at "sq") | exact RD.KB.seq (by assumption) (by walk_at "ne") (by walk_at "sq") | fail "no")
local macro_rules | `(tactic| walk_at "st") => `(tactic| first | assumption | exact Or.inl (Or.inl (by walk_at "hp")) | exact RD.Same.tup (by assumption) (by walk_at "st") | exact RD.KB.tup (by assumption) (by walk_at "ne") (by walk_at "st") | fail "no")
local macro_rules | `(tactic| walk_at "rd") => `(tactic| first
  | with_reducible refine RD.c ?_
  | ((with_reducible refine' RD.var ?rdE ?rdK); (case rdE => exact rfl))
  | with_reducible refine RD.op ?_
  | with_reducible refine RD.un ?_
  | with_reducible refine RD.nil ?_
  | with_reducible refine RD.cons ?_
  | with_reducible refine RD.cb ?_
  | with_reducible refine RD.call ?_
  | with_reducible refine RD.test ?_
  | with_reducible refine RD.tb' ?_
  | with_reducible refine RD.bl ?_
  | with_reducible refine RD.and' ?_
  | with_reducible refine RD.or' ?_
  | with_reducible refine RD.not' ?_
  | with_reducible refine RD.andV ?_
  | with_reducible refine RD.orV ?_
  | with_reducible refine RD.notV ?_
  | with_reducible refine RD.ife ?_
  | with_reducible refine RD.sl ?_
  | with_reducible refine RD.part ?_
  | with_reducible refine RD.noPart ?_
  | with_reducible refine RD.partI ?_
  | with_reducible refine RD.rd0 ?_
  | with_reducible refine RD.rdU ?_
  | ((with_reducible refine' RD.rdEq ?rdE ?rdK); (case rdE => rfl))
  | ((with_reducible refine' RD.rdNe ?rdE ?rdK); (case rdE => rfl))
  | ((with_reducible refine' RD.ixL ?rdH ?rdE ?rdK); (case rdH => walk_at "sq"); (case rdE => first | rfl | assumption))
  | ((with_reducible refine' RD.rdI ?rdC ?rdK); (case rdC => first | assumption | (show (0 : Int) < _; first | decide | omega) | exact ⟨by decide, by decide⟩ | exact ⟨by assumption, by assumption⟩ | exact .inr ⟨by decide, by decide⟩ | exact .inl ⟨by decide, by decide⟩ | exact ⟨by decide, by decide, by decide⟩ | exact .inl ⟨by omega, by omega⟩))
  | ((with_reducible refine' RD.setL ?rdH ?rdE ?rdK); (case rdH => walk_at "hp"); (case rdE => rfl); intro $(Lean.mkIdent `H'):ident $(Lean.mkIdent `hk):ident $(Lean.mkIdent `hv):ident)
  | ((with_reducible refine' RD.irng1V ?rdA ?rdB ?rdK); (case rdA => first | decide | omega); (case rdB => first | decide | omega))
  | with_reducible refine RD.int1 ?_
  | with_reducible refine RD.abs1 ?_
  | ((with_reducible refine' RD.len ?rdH ?rdK); (case rdH => first | exact Or.inl (by walk_at "sq") | exact Or.inr (by walk_at "st")))
  | with_reducible refine RD.tup ?_
  | with_reducible refine RD.lst ?_
  | with_reducible refine RD.ite1 ?_
  | with_reducible refine RD.ite0 ?_
  | with_reducible refine RD.ite1n ?_
  | with_reducible refine RD.ite0n ?_
  | with_reducible refine RD.seq ?_
  | with_reducible refine RD.asg ?_
  | with_reducible refine RD.name ?_
  | with_reducible refine RD.ret ?_
  | with_reducible refine RD.drop ?_
  | with_reducible refine RD.next ?_
  | with_reducible refine RD.ifs ?_
  | with_reducible refine RD.par ?_
  | with_reducible refine RD.par2 ?_
  | with_reducible refine RD.sub ?_
  | with_reducible refine RD.gcons ?_
  | with_reducible refine RD.gnil ?_
  | with_reducible refine RD.bm ?_
  | ((with_reducible refine' RD.bmL ?rdH ?rdK); (case rdH => walk_at "sq"))
  | ((with_reducible refine' RD.newZ ?rdH ?rdK); (case rdH => exact RD.sz _); intro $(Lean.mkIdent `p'):ident $(Lean.mkIdent `H'):ident $(Lean.mkIdent `hp):ident $(Lean.mkIdent `hs):ident $(Lean.mkIdent `hv):ident; (try have $(Lean.mkIdent `hn):ident := hand_ne $(Lean.mkIdent `hp):ident (by walk_at "hk")))
  | with_reducible refine RD.fors ?_
  | with_reducible refine RD.lc ?_
  | with_reducible refine RD.yes ?_
  | with_reducible refine RD.ilist ?_
  | ((with_reducible refine' RD.ilistV ?rdH ?rdK); (case rdH => walk_at "sq"))
  | with_reducible refine RD.itup ?_
  | ((with_reducible refine' RD.itupV ?rdH ?rdK); (case rdH => walk_at "st"))
  | with_reducible refine RD.irng1 ?_
  | with_reducible refine RD.irng2 ?_
  | ((with_reducible refine' RD.irng2V ?rdA ?rdK); (case rdA => first | decide | omega))
  | with_reducible refine RD.ienum ?_
  | ((with_reducible refine' RD.ienumV ?rdH ?rdK); (case rdH => walk_at "sq"))
  | with_reducible refine RD.izip ?_
  | ((with_reducible refine' RD.izipV ?rdH ?rdE ?rdK); (case rdH => walk_at "sq"); (case rdE => walk_at "sq"))
  | with_reducible refine SPD.izipA ?_
  | with_reducible refine RD.istr ?_
  | with_reducible refine RD.istrV ?_
  | ((with_reducible refine' RD.slL ?rdH ?rdK); (case rdH => walk_at "sq"); intro $(Lean.mkIdent `p'):ident $(Lean.mkIdent `H'):ident $(Lean.mkIdent `hp):ident $(Lean.mkIdent `hs):ident $(Lean.mkIdent `hv):ident; (try have $(Lean.mkIdent `hn):ident := hand_ne $(Lean.mkIdent `hp):ident (by walk_at "hk")))
  | ((with_reducible refine' RD.cat ?rdH ?rdE ?rdZ ?rdK); (case rdH => walk_at "hp"); (case rdE => walk_at "hp"); (case rdZ => exact RD.sz _); intro $(Lean.mkIdent `p'):ident $(Lean.mkIdent `H'):ident $(Lean.mkIdent `hp):ident $(Lean.mkIdent `hs):ident $(Lean.mkIdent `hv):ident; (try have $(Lean.mkIdent `hn):ident := hand_ne $(Lean.mkIdent `hp):ident (by walk_at "hk")))
  | ((with_reducible refine' RD.gtup ?rdH ?rdE ?rdK); (case rdH => walk_at "st"); (case rdE => rfl))
  | ((with_reducible refine' RD.app ?rdH ?rdZ ?rdK); (case rdH => walk_at "hp"); (case rdZ => first | assumption | (apply RD.szl; omega)); intro $(Lean.mkIdent `H'):ident $(Lean.mkIdent `hk):ident $(Lean.mkIdent `hv):ident)
  | ((with_reducible refine' RD.all1 ?rdH ?rdK); (case rdH => walk_at "sq"))
  | ((with_reducible refine' RD.any1 ?rdH ?rdK); (case rdH => walk_at "sq"))
  | ((with_reducible refine' SPD.dnew ?rdK); intro $(Lean.mkIdent `p'):ident $(Lean.mkIdent `H'):ident $(Lean.mkIdent `hp):ident $(Lean.mkIdent `hs):ident $(Lean.mkIdent `hv):ident; (try have $(Lean.mkIdent `hn):ident := hand_ne $(Lean.mkIdent `hp):ident (by walk_at "hk")))
  | ((with_reducible refine' SPD.disp1 ?rdK); intro $(Lean.mkIdent `p'):ident $(Lean.mkIdent `H'):ident $(Lean.mkIdent `hp):ident $(Lean.mkIdent `hs):ident $(Lean.mkIdent `hv):ident; (try have $(Lean.mkIdent `hn):ident := hand_ne $(Lean.mkIdent `hp):ident (by walk_at "hk")))
  | ((with_reducible refine' SPD.isSeq ?rdH ?rdE ?rdK); (case rdH => walk_at "hp"); (case rdE => walk_at "kd"))
  | ((with_reducible refine' SPD.isTup ?rdE ?rdK); (case rdE => walk_at "kd"))
  | ((with_reducible refine' SPD.isLst ?rdE ?rdK); (case rdE => walk_at "kd"))
  | ((with_reducible refine' SPD.isBool ?rdE ?rdK); (case rdE => walk_at "kd"))
  | ((with_reducible refine' SPD.isStr ?rdE ?rdK); (case rdE => walk_at "kd"))
  | ((with_reducible refine' SPD.isInt ?rdE ?rdK); (case rdE => walk_at "kd"))
  | dsimp only)
local macro_rules | `(tactic| walk_at "rds") => `(tactic| repeat walk_at "rd")
local macro_rules | `(tactic| walk_at "sm") => `(tactic| first | assumption | exact Same.refl _ | exact RD.sm_tr (by assumption) (by walk_at "sm") | fail "no")
local macro_rules | `(tactic| walk_at "kb") => `(tactic| first | assumption | exact RD.KB.refl | exact RD.kb_tr (by assumption) (by walk_at "kb") | exact RD.kb_trs (by assumption) (by walk_at "kb") | fail "no")
local macro_rules | `(tactic| walk_at "fr") => `(tactic| first | assumption | exact RD.fr_of (by assumption) (by walk_at "sm") | fail "no")
local macro_rules | `(tactic| walk_at "hk") => `(tactic| first | assumption | exact hand_same (by assumption) (by walk_at "hk") | exact hand_kb (by assumption) (by walk_at "fr") (by walk_at "hk") | fail "no")
local macro_rules | `(tactic| walk_at "na") => `(tactic| first | assumption | exact hand_ne (by assumption) (by walk_at "hk") | fail "no")
local macro_rules | `(tactic| walk_at "dqa") => `(tactic| first | exact SPD.DqA.nil | exact SPD.DqA.cons (by walk_at "dq") (by walk_at "dqa") | exact SPD.DqA.app (by walk_at "dqa") (by walk_at "dqa") | fail "no")
local macro_rules | `(tactic| walk_at "dq") => `(tactic| first | assumption | exact SPD.Dq.leaf rfl | exact SPD.dq_kb (by assumption) (by walk_at "kb") | exact SPD.dqTup (by walk_at "hp") (by walk_at "na") (by walk_at "dqa") | exact SPD.dqLst (by walk_at "hp") (by walk_at "na") (by walk_at "dqa") | exact SPD.dqNil (by walk_at "hp") (by walk_at "na") (by first | decide | simp) (by first | decide | simp) | fail "no")

local macro_rules | `(tactic| walk_at "rd") => `(tactic| first
  | with_reducible refine RB.chain ?_
  | with_reducible refine RB.m1 ?_
  | with_reducible refine RB.strE ?_
  | with_reducible refine RB.fld ?_
  | with_reducible refine RB.setF ?_
  | with_reducible refine RB.ss ?_
  | with_reducible refine RB.rev ?_
  | with_reducible refine RB.make ?_
  | with_reducible refine RB.makeS ?_
  | with_reducible refine RB.mkO ?_
  | with_reducible refine NR.ienumT ?_
  | with_reducible refine RB.inS ?_
  | with_reducible refine RB.bmS ?_
  | with_reducible refine RB.callS ?_
  | with_reducible refine RB.sw3 ?_
  | with_reducible refine RB.par3 ?_
  | with_reducible refine RB.par3V ?_
  | ((with_reducible refine' RB.slS ?rdH ?rdK); (case rdH => walk_at "sz"))
  | with_reducible refine RB.xf ?_
  | ((with_reducible refine' RB.xfV ?rdH ?rdE ?rdK); (case rdH => walk_at "hp"); (case rdE => rfl))
  | ((with_reducible refine' NR.ienumTV ?rdH ?rdK); (case rdH => walk_at "st"))
  | ((with_reducible refine' RB.lenL ?rdH ?rdK); (case rdH => walk_at "sq"))
  | ((with_reducible refine' RB.lenT ?rdH ?rdK); (case rdH => walk_at "st"))
  | ((with_reducible refine' RB.lenS ?rdH ?rdK); (case rdH => walk_at "sz"))
  | ((with_reducible refine' RD.lenS ?rdH ?rdK); (case rdH => walk_at "sz"))
  | ((with_reducible refine' RB.slT ?rdH ?rdK); (case rdH => walk_at "hp"); intro $(Lean.mkIdent `p'):ident $(Lean.mkIdent `H'):ident $(Lean.mkIdent `hs):ident $(Lean.mkIdent `hv):ident $(Lean.mkIdent `hp):ident; (try have $(Lean.mkIdent `hn):ident := two_ne $(Lean.mkIdent `hp):ident (by walk_at "na") (by walk_at "hk")))
  | ((with_reducible refine' RB.revV ?rdH ?rdK); (case rdH => walk_at "st"); intro $(Lean.mkIdent `p'):ident $(Lean.mkIdent `H'):ident $(Lean.mkIdent `hp):ident $(Lean.mkIdent `hs):ident $(Lean.mkIdent `hv):ident; (try have $(Lean.mkIdent `hn):ident := hand_ne $(Lean.mkIdent `hp):ident (by walk_at "hk")))
  | ((with_reducible refine' RB.listS ?rdH ?rdK); (case rdH => walk_at "sz"); intro $(Lean.mkIdent `p'):ident $(Lean.mkIdent `H'):ident $(Lean.mkIdent `hp):ident $(Lean.mkIdent `hs):ident $(Lean.mkIdent `hv):ident; (try have $(Lean.mkIdent `hn):ident := hand_ne $(Lean.mkIdent `hp):ident (by walk_at "hk")))
  | ((with_reducible refine' RB.listO ?rdH ?rdK); (case rdH => first | exact Or.inl (by walk_at "sq") | exact Or.inr (by walk_at "st")); intro $(Lean.mkIdent `p'):ident $(Lean.mkIdent `H'):ident $(Lean.mkIdent `hp):ident $(Lean.mkIdent `hs):ident $(Lean.mkIdent `hv):ident; (try have $(Lean.mkIdent `hn):ident := hand_ne $(Lean.mkIdent `hp):ident (by walk_at "hk")))
  | ((with_reducible refine' RB.tupL ?rdH ?rdK); (case rdH => walk_at "sq"); intro $(Lean.mkIdent `p'):ident $(Lean.mkIdent `H'):ident $(Lean.mkIdent `hp):ident $(Lean.mkIdent `hs):ident $(Lean.mkIdent `hv):ident; (try have $(Lean.mkIdent `hn):ident := hand_ne $(Lean.mkIdent `hp):ident (by walk_at "hk")))
  | ((with_reducible refine' RB.catT ?rdH ?rdE ?rdZ ?rdK); (case rdH => walk_at "hp"); (case rdE => walk_at "hp"); (case rdZ => exact RB.LN.sum (by walk_at "ln") (by walk_at "ln") rfl); intro $(Lean.mkIdent `p'):ident $(Lean.mkIdent `H'):ident $(Lean.mkIdent `hs):ident $(Lean.mkIdent `hv):ident $(Lean.mkIdent `hp):ident; (try have $(Lean.mkIdent `hn):ident := three_ne $(Lean.mkIdent `hp):ident (by walk_at "na") (by walk_at "na") (by walk_at "hk")))
  | fail "no")
local macro_rules | `(tactic| walk_at "ln") => `(tactic| first | with_reducible assumption | exact RB.LN.cut (by walk_at "ln") | exact RB.LN.app (by walk_at "ln") (by walk_at "ln") | exact RB.LN.rev (by walk_at "ln") | exact RB.LN.rep (by walk_at "ln") | exact RB.LN.lit rfl | fail "no")
local macro_rules | `(tactic| walk_at "sz") => `(tactic| first | assumption | exact RD.sz _ | fail "no")

local macro_rules | `(tactic| walk_at "dk") => `(tactic| first | exact FR.rd_of (by walk_at "hp") | exact Or.inr ⟨_, by walk_at "hp"⟩ | fail "no")
local macro_rules | `(tactic| walk_at "rd") => `(tactic| first
  | with_reducible refine FR.dget ?_
  | with_reducible refine FR.din ?_
  | with_reducible refine FR.dnotin ?_
  | with_reducible refine FR.dc ?_
  | with_reducible refine FR.ikeys ?_
  | with_reducible refine FR.ivals ?_
  | with_reducible refine FR.bm0 ?_
  | ((with_reducible refine' FR.dinS ?rdH ?rdK); (case rdH => walk_at "dk"))
  | ((with_reducible refine' FR.keysV ?rdH ?rdK); (case rdH => walk_at "hp"))
  | ((with_reducible refine' FR.valsV ?rdH ?rdK); (case rdH => walk_at "hp"))
  | ((with_reducible refine' FR.bmD ?rdH ?rdK); (case rdH => walk_at "hp"))
  | with_reducible refine FR.ckw ?_
  | with_reducible refine FR.dget2 ?_
  | ((with_reducible refine' FR.isdV ?rdH ?rdK); (case rdH => walk_at "dk"))
  | ((with_reducible refine' FR.dg2S ?rdH ?rdK); (case rdH => walk_at "dk"))
  | ((with_reducible refine' FR.lenD ?rdH ?rdK); (case rdH => walk_at "hp"))
  | fail "no")

local macro_rules | `(tactic| walk_at "rd") => `(tactic| first
  | with_reducible refine BH.iitems ?_
  | with_reducible refine BH.revl ?_
  | ((with_reducible refine' BH.dg2I ?rdH ?rdK); (case rdH => walk_at "dk"))
  | ((with_reducible refine' BH.catN ?rdH ?rdE ?rdZ ?rdK); (case rdH => walk_at "hp"); (case rdE => walk_at "hp"); (case rdZ => assumption); intro $(Lean.mkIdent `p'):ident $(Lean.mkIdent `H'):ident $(Lean.mkIdent `hs):ident $(Lean.mkIdent `hv):ident)
  | fail "no")

/-! ### the first log apart -/
/-- what is in one of two lists alone -/
def apL (F G : List Str) : List Str := (F.filter fun y => !decide (y ∈ G)) ++ (G.filter fun y => !decide (y ∈ F))
def spApartZ : Sp := fun vs H Q _ => ∃ (t u : Addr) (zs ws : List Str) (m N : Nat), vs = [.ref t, .ref u, .int (m : Int)] ∧ H t = some (.tup (zs.map V.str)) ∧ Good zs ∧ H u = some (.tup (ws.map V.str)) ∧ Good ws ∧ m ≤ 20 ∧ N ≤ 2000 ∧ (∀ ys : List Str, ys = zs ∨ ys = ws → ∀ F : List Str, F.Nodup → (∀ w, w ∈ F → IL.Idle (tls ys) (tl w) ∧ w.cps.size ≤ m) → F.length ≤ N) ∧
  ((∀ w : Str, w.cps.size ≤ m → (IL.Idle (tls zs) (tl w) ↔ IL.Idle (tls ws) (tl w))) → ∀ H', Same H H' → Q .non H') ∧
  ∀ z H', z.cps.size ≤ m → ¬ (IL.Idle (tls zs) (tl z) ↔ IL.Idle (tls ws) (tl z)) → (∀ y : Str, y.cps.size ≤ m → ¬ (IL.Idle (tls zs) (tl y) ↔ IL.Idle (tls ws) (tl y)) → SKL.leS z y = true) → Same H H' → Q (.str z) H'
theorem ap_mem {zs ws F G : List Str} {m : Nat} (hF : ∀ w, w ∈ F ↔ IL.Idle (tls zs) (tl w) ∧ w.cps.size ≤ m) (hG : ∀ w, w ∈ G ↔ IL.Idle (tls ws) (tl w) ∧ w.cps.size ≤ m) (y : Str) : y ∈ apL F G ↔ y.cps.size ≤ m ∧ ¬ (IL.Idle (tls zs) (tl y) ↔ IL.Idle (tls ws) (tl y)) := by
  unfold apL
  rw [List.mem_append, List.mem_filter, List.mem_filter]
  by_cases h1 : IL.Idle (tls zs) (tl y) <;> by_cases h2 : IL.Idle (tls ws) (tl y) <;> by_cases h3 : y.cps.size ≤ m <;> simp [h1, h2, h3, hF, hG]
theorem pz_kb {d : Addr} {H H' : Hp} {vs : List V} {L : List RSK.NZ} (k : RD.KB d H H') (n : ∀ ps, H d ≠ some (.tup ps)) (h : RSK.PZ H vs L) : RSK.PZ H' vs L := by
  induction h with
  | nil => exact .nil
  | cons ht _ ih => exact .cons (k _ _ (fun e => n _ (by rw [← e]; exact ht)) ht) ih
theorem pz_frz {d : Addr} {H H' : Hp} {od : Obj} {o : HO} {vs : List V} {L : List RSK.NZ} (k : RD.KB d H H') (hd : H d = some (.frz od o)) (h : RSK.PZ H vs L) : RSK.PZ H' vs L := pz_kb k (fun ps e => by rw [hd] at e; cases e) h
theorem pz_dict {d : Addr} {H H' : Hp} {o : List (Key × V)} {vs : List V} {L : List RSK.NZ} (k : RD.KB d H H') (hd : H d = some (.dK o)) (h : RSK.PZ H vs L) : RSK.PZ H' vs L := pz_kb k (fun ps e => by rw [hd] at e; cases e) h
section
variable {P : Program} {w : World} {K : PySem.W.Frag} {mg : Str → Option Value} {base : Heap}
theorem ok_first_apart (T : Txt P K mg) : FnOk P w K mg base CX0 2 T.a_first_apart T.fd_first_apart ["_law_pieces", "_law_others", "_law_most"] spApartZ := by
  have nd := sc_first_apart.nd
  have G_grown : FnOk P w K mg base CX0 1 T.a_grown T.fd_grown ["_law_pieces", "_law_most"] spGrownZ := ok_grown T
  refine T.F_first_apart.ok sc_first_apart (fun vs H Q E h => ?_) (fun cdv A outer s H vs Q E hr h => ?_)
  · obtain ⟨t, u, zs, ws, m, N, rfl, _⟩ := h
    rfl
  · obtain ⟨t, u, zs, ws, m, N, rfl, ht, gz, hu, gw, hm, hN0, hN, q1, q2⟩ := h
    refine ⟨_, (pss_cons (ps_asg (pe_tup (pa_cons (pe_call G_grown hr (by rfl) T.g_grown T.F_grown.kp T.b_grown .nil pass0 (pa_cons (pv 0) (pa_cons (pv 2) pa_nil))) (pa_cons (pe_call G_grown hr (by rfl) T.g_grown T.F_grown.kp T.b_grown .nil pass0 (pa_cons (pv 1) (pa_cons (pv 2) pa_nil))) pa_nil))) (pg_tup rfl (pgs_cons (pg_name (i := 3) nd rfl (by first | exact Or.inl rfl | exact Or.inr rfl)) (pgs_cons (pg_name (i := 4) nd rfl (by first | exact Or.inl rfl | exact Or.inr rfl)) pgs_nil))))
  (pss_cons (ps_set (i := 5) nd rfl (by first | exact Or.inl rfl | exact Or.inr rfl) (pe_op op_cat (pe_lock (pe_lc (own := [("_law_log", 6)]) (g := (gName 6)) rfl nd (pi_keys (pv 3)) (blkOk_by (own := [("_law_log", 6)]) (N := N_first_apart) (sc := defScope s_first_apart) (by decide +kernel)) (fun _ _ _ _ _ => (pg_name (i := 6) nd rfl (Or.inl rfl))) (fun _ _ _ _ _ => (pts_one (pt_cmp (pc_dnotin (SPE.room1 hr) (pv 6) (pv 4))))) (fun _ _ _ _ _ => (pe_tup (pa_cons (pe_callB call_len_str (by rfl) T.m_len PySem.boot_len (pa_cons (pv 6) pa_nil)) (pa_cons (pv 6) pa_nil)))))) (pe_lock (pe_lc (own := [("_law_log", 6)]) (g := (gName 6)) rfl nd (pi_keys (pv 4)) (blkOk_by (own := [("_law_log", 6)]) (N := N_first_apart) (sc := defScope s_first_apart) (by decide +kernel)) (fun _ _ _ _ _ => (pg_name (i := 6) nd rfl (Or.inl rfl))) (fun _ _ _ _ _ => (pts_one (pt_cmp (pc_dnotin (SPE.room1 hr) (pv 6) (pv 3))))) (fun _ _ _ _ _ => (pe_tup (pa_cons (pe_callB call_len_str (by rfl) T.m_len PySem.boot_len (pa_cons (pv 6) pa_nil)) (pa_cons (pv 6) pa_nil))))))))
  (pss_one (ps_ret (pe_ifExp (pt_cmpR op_gt (pe_callB call_len_seq (by rfl) T.m_len PySem.boot_len (pa_cons (pv 5) pa_nil)) pe_int (nomark _)) (pe_ix ix_tup (pe_callB (MKD.cr_minZ rfl hr.units) (by rfl) T.m_min (by decide +kernel) (pa_cons (pv 5) pa_nil)) pe_int (fun _ _ => rfl)) pe_non))))), ?_⟩
    walk_at "rds"
    refine ⟨t, zs, m, N, rfl, ht, gz, hm, hN0, hN zs (.inl rfl), fun d1 F1 H1 hd1 s1 h1 n1 m1 => ?_⟩
    have l1 := hN zs (.inl rfl) F1 n1 fun w hw => (m1 w).mp hw
    have hu1 := s1 _ _ hu
    walk_at "rds"
    refine ⟨u, ws, m, N, rfl, hu1, gw, hm, hN0, hN ws (.inr rfl), fun d2 F2 H2 hd2 s2 h2 n2 m2 => ?_⟩
    have l2 := hN ws (.inr rfl) F2 n2 fun w hw => (m2 w).mp hw
    have h12 := s2 _ _ h1
    have s02 := s1.trans s2
    have nd12 : d1 ≠ d2 := ne_of_none h1 hd2
    have hlF1 : (ttZ F1).length ≤ sizeLine := RD.szo (by rw [ttZ_len]; omega)
    have hlF2 : (ttZ F2).length ≤ sizeLine := RD.szo (by rw [ttZ_len]; omega)
    walk_at "rds"
    have s3 := s02.trans hs
    have g1 := hs _ _ h12
    have g2 := hs _ _ h2
    clear s1 s2 h1 h2 h12 hu1 hs hp hv s02
    generalize H' = H3 at s3 g1 g2 ⊢
    have lf : ∀ (p : Str → Bool) (l : List Str), (l.filter p).length ≤ l.length := fun p l => List.length_filter_le _ _
    have hPl : ∀ l : List Str, (prZ l).length = l.length := fun l => List.length_map ..
    refine FR.lockE g1 fun od Hf kf hf => ?_
    have gf2 := kf _ _ nd12.symm g2
    walk_at "rds"
    refine RD.lcW FR.w_keys (by rw [ttZ_len]; omega) fun D H4 hD s4 hv4 => ⟨fun i acc H' => Same Hf H' ∧ RSK.PZ H' acc (prZ ((F1.take i).filter fun y => !decide (y ∈ F2))), ⟨s4, .nil⟩, fun i acc H' _ p => p.1 _ _ hf, fun i x acc H5 H6 Z N hi hp hDa hy hZ hN => ?_, fun acc H5 hp hDa => ?_⟩
    · obtain ⟨s5, hP⟩ := hp
      obtain ⟨rfl, hx⟩ := hy
      rw [ttZ_keys, List.getElem?_map] at hx
      obtain ⟨y, hyj, rfl⟩ := Option.map_eq_some_iff.mp hx
      have hy8 := ((m1 y).mp (List.mem_of_getElem? hyj)).2
      have hyl : y.length ≤ sizeLine := RD.szo (by show y.cps.size ≤ _; omega)
      have etk : F1.take (i + 1) = F1.take i ++ [y] := by rw [List.take_add_one, hyj]; rfl
      have g5 := s5 _ _ gf2
      walk_at "rds"
      refine ⟨rfl, ?_⟩
      walk_at "rds"
      rw [show (valV (ttZ F2) (Sum.inr y)).isSome = decide (y ∈ F2) from ttZ_in F2 y]
      refine RD.ite_b (fun e => ?_) (fun e => ?_)
      · walk_at "rds"
        have hD6 := hs _ _ hDa
        refine hZ _ _ hD6 fun H6 k6 h6 => ⟨RD.same_mut k6 (s5.trans hs) hD, ?_⟩
        rw [etk, List.filter_append, List.filter_cons, e]
        have : prZ ((F1.take i).filter (fun y => !decide (y ∈ F2)) ++ [y]) = prZ ((F1.take i).filter fun y => !decide (y ∈ F2)) ++ [(y.length, y)] := List.map_append ..
        show RSK.PZ H6 _ (prZ ((F1.take i).filter (fun y => !decide (y ∈ F2)) ++ [y]))
        rw [this]
        exact (((hP.same hs).app (.cons hv .nil))).kb k6 hD6
      · refine hN _ hDa ⟨s5, ?_⟩
        rw [etk, List.filter_append, List.filter_cons, e]
        simpa using hP
    obtain ⟨s5, hP⟩ := hp
    rw [ttZ_len, List.take_length] at hP
    have hf5 := s5 _ _ hf
    have g5 := s5 _ _ gf2
    refine FR.ul hf5 fun H6 k6 e6 => ?_
    have s6 : Same H3 H6 := FR.unlock kf s5 k6 e6 g1
    have hP6 := pz_frz k6 hf5 hP
    have nDd : D ≠ d1 := (ne_of_none hf hD).symm
    have hD6 := k6 _ _ nDd hDa
    have g61 := s6 _ _ g1
    have g62 := s6 _ _ g2
    have s06 := s3.trans s6
    have nD2 : D ≠ d2 := fun e => by
      rw [e, g62] at hD6
      cases hD6
    clear hP hDa kf hf gf2 s4 hv4 s5 hf5 g5 k6 e6 g1 g2 hD s3 s6
    walk_at "rds"
    refine FR.lockE g62 fun od2 Hg kg hg => ?_
    have gg1 := kg _ _ nd12 g61
    have hDg := kg _ _ nD2 hD6
    have hPg := pz_dict kg g62 hP6
    walk_at "rds"
    refine RD.lcW FR.w_keys (by rw [ttZ_len]; omega) fun D2 H7 hD2 s7 hv7 => ⟨fun i acc H' => Same Hg H' ∧ RSK.PZ H' acc (prZ ((F2.take i).filter fun y => !decide (y ∈ F1))), ⟨s7, .nil⟩, fun i acc H' _ p => p.1 _ _ hg, fun i x acc2 H8 H9 Z N hi hp hDb hy hZ hN => ?_, fun acc2 H8 hp hDb => ?_⟩
    · obtain ⟨s8, hP8⟩ := hp
      obtain ⟨rfl, hx⟩ := hy
      rw [ttZ_keys, List.getElem?_map] at hx
      obtain ⟨y, hyj, rfl⟩ := Option.map_eq_some_iff.mp hx
      have hy8 := ((m2 y).mp (List.mem_of_getElem? hyj)).2
      have hyl : y.length ≤ sizeLine := RD.szo (by show y.cps.size ≤ _; omega)
      have etk : F2.take (i + 1) = F2.take i ++ [y] := by rw [List.take_add_one, hyj]; rfl
      have g8 := s8 _ _ gg1
      walk_at "rds"
      refine ⟨rfl, ?_⟩
      walk_at "rds"
      rw [show (valV (ttZ F1) (Sum.inr y)).isSome = decide (y ∈ F1) from ttZ_in F1 y]
      refine RD.ite_b (fun e => ?_) (fun e => ?_)
      · walk_at "rds"
        have hD9 := hs _ _ hDb
        refine hZ _ _ hD9 fun H10 k10 h10 => ⟨RD.same_mut k10 (s8.trans hs) hD2, ?_⟩
        rw [etk, List.filter_append, List.filter_cons, e]
        have : prZ ((F2.take i).filter (fun y => !decide (y ∈ F1)) ++ [y]) = prZ ((F2.take i).filter fun y => !decide (y ∈ F1)) ++ [(y.length, y)] := List.map_append ..
        show RSK.PZ H10 _ (prZ ((F2.take i).filter (fun y => !decide (y ∈ F1)) ++ [y]))
        rw [this]
        exact (((hP8.same hs).app (.cons hv .nil))).kb k10 hD9
      · refine hN _ hDb ⟨s8, ?_⟩
        rw [etk, List.filter_append, List.filter_cons, e]
        simpa using hP8
    obtain ⟨s8, hP8⟩ := hp
    rw [ttZ_len, List.take_length] at hP8
    have hg8 := s8 _ _ hg
    refine FR.ul hg8 fun H9 k9 e9 => ?_
    have s9 : Same H6 H9 := FR.unlock kg s8 k9 e9 g62
    have hP9 := pz_frz k9 hg8 hP8
    have hP1 := hP6.same s9
    have nDd2 : D2 ≠ d2 := (ne_of_none hg hD2).symm
    have hDb9 := k9 _ _ nDd2 hDb
    have hDa9 := s9 _ _ hD6
    have s09 := s06.trans s9
    have f1 := lf (fun y => !decide (y ∈ F2)) F1
    have f2 := lf (fun y => !decide (y ∈ F1)) F2
    have n1 := hP1.len
    have n2 := hP9.len
    rw [hPl] at n1 n2
    clear hP8 hPg hDg gg1 hDb kg hg s7 hv7 s8 hg8 k9 e9 g61 g62 hP6 hD6 hD2 s06 s9
    walk_at "rds"
    refine RD.cat hDa9 hDb9 (RD.szo (by omega)) fun p6 H10 hp6 s10 h10 => ?_
    have hP10 : RSK.PZ H10 (acc ++ acc2) (prZ (apL F1 F2)) := by
      have : prZ (apL F1 F2) = prZ (F1.filter fun y => !decide (y ∈ F2)) ++ prZ (F2.filter fun y => !decide (y ∈ F1)) := List.map_append ..
      rw [this]
      exact (hP1.same s10).app (hP9.same s10)
    have s010 := s09.trans s10
    have hl10 := hP10.len
    rw [hPl] at hl10
    clear hP1 hP9 hDa9 hDb9 s10 s09
    walk_at "rds"
    refine RD.ite_d (fun h0 => ?_) (fun h0 => ?_)
    · have hne : apL F1 F2 ≠ [] := fun e => by
        rw [e] at hl10
        have h0 : (0 : Int) < ((acc ++ acc2).length : Int) := h0
        rw [hl10] at h0
        simp at h0
      walk_at "rds"
      refine MKD.minZV (.inl (.inl h10)) hP10 (fun e => hne (List.map_eq_nil_iff.mp e)) fun t0 b hb hle ht0 => ?_
      obtain ⟨y, hy, rfl⟩ := List.mem_map.mp hb
      walk_at "rds"
      refine RD.ixT (.inl (.inl ht0)) rfl ?_
      walk_at "rds"
      have hy2 := (ap_mem m1 m2 y).mp hy
      exact q2 y _ hy2.1 hy2.2 (fun y2 h1 h2 => hle _ (List.mem_map.mpr ⟨y2, (ap_mem m1 m2 y2).mpr ⟨h1, h2⟩, rfl⟩)) s010
    · have he : apL F1 F2 = [] := List.eq_nil_of_length_eq_zero (by
        rw [← hl10]
        have h0 : ¬ (0 : Int) < ((acc ++ acc2).length : Int) := h0
        omega)
      walk_at "rds"
      refine q1 (fun y hy => ?_) _ s010
      by_cases e : IL.Idle (tls zs) (tl y) ↔ IL.Idle (tls ws) (tl y)
      · exact e
      · have := (ap_mem m1 m2 y).mpr ⟨hy, e⟩
        rw [he] at this
        exact absurd this List.not_mem_nil
end


end K27

namespace K27
open PySem PySem.Spec PyProof.Rows L2
local macro_rules | `(tactic| walk_at "kd") => `(tactic| first | assumption | exact SPD.KdOf.int _ | exact SPD.KdOf.str _ | exact SPD.KdOf.bl _ | exact SPD.KdOf.non | exact SPD.KdOf.same (by assumption) (by walk_at "kd") | exact SPD.KdOf.tup (by walk_at "hp") | exact SPD.KdOf.lst (by walk_at "hp") | fail "no")
local macro_rules | `(tactic| walk_at "ne") => `(tactic| first | assumption | exact Ne.symm (by assumption) | fail "no")
local macro_rules | `(tactic| walk_at "hp") => `(tactic| first | assumption | exact RD.at_same (by assumption) (by walk_at "hp") | exact RD.at_kb (by assumption) (by walk_at "ne") (by walk_at "hp") | fail "no")
local macro_rules | `(tactic| walk_at "sq") => `(tactic| first | assumption | exact Or.inl (Or.inl (by walk_at "hp")) | exact Same.seq (by assumption) (by walk_at "sq") | exact RD.KB.seq (by assumption) (by walk_at "ne") (by walk_at "sq") | fail "no")
local macro_rules | `(tactic| walk_at "st") => `(tactic| first | assumption | exact Or.inl (Or.inl (by walk_at "hp")) | exact RD.Same.tup (by assumption) (by walk_at "st") | exact RD.KB.tup (by assumption) (by walk_at "ne") (by walk_at "st") | fail "no")
local macro_rules | `(tactic| walk_at "rd") => `(tactic| first
  | with_reducible refine RD.c ?_
  | ((with_reducible refine' RD.var ?rdE ?rdK); (case rdE => exact rfl))
  | with_reducible refine RD.op ?_
  | with_reducible refine RD.un ?_
  | with_reducible refine RD.nil ?_
  | with_reducible refine RD.cons ?_
  | with_reducible refine RD.cb ?_
  | with_reducible refine RD.call ?_
  | with_reducible refine RD.test ?_
  | with_reducible refine RD.tb' ?_
  | with_reducible refine RD.bl ?_
  | with_reducible refine RD.and' ?_
  | with_reducible refine RD.or' ?_
  | with_reducible refine RD.not' ?_
  | with_reducible refine RD.andV ?_
  | with_reducible refine RD.orV ?_
  | with_reducible refine RD.notV ?_
  | with_reducible refine RD.ife ?_
  | with_reducible refine RD.sl ?_
  | with_reducible refine RD.part ?_
  | with_reducible refine RD.noPart ?_
  | with_reducible refine RD.partI ?_
  | with_reducible refine RD.rd0 ?_
  | with_reducible refine RD.rdU ?_
  | ((with_reducible refine' RD.rdEq ?rdE ?rdK); (case rdE => rfl))
  | ((with_reducible refine' RD.rdNe ?rdE ?rdK); (case rdE => rfl))
  | ((with_reducible refine' RD.ixL ?rdH ?rdE ?rdK); (case rdH => walk_at "sq"); (case rdE => first | rfl | assumption))
  | ((with_reducible refine' RD.rdI ?rdC ?rdK); (case rdC => first | assumption | (show (0 : Int) < _; first | decide | omega) | exact ⟨by decide, by decide⟩ | exact ⟨by assumption, by assumption⟩ | exact .inr ⟨by decide, by decide⟩ | exact .inl ⟨by decide, by decide⟩ | exact ⟨by decide, by decide, by decide⟩ | exact .inl ⟨by omega, by omega⟩))
  | ((with_reducible refine' RD.setL ?rdH ?rdE ?rdK); (case rdH => walk_at "hp"); (case rdE => rfl); intro $(Lean.mkIdent `H'):ident $(Lean.mkIdent `hk):ident $(Lean.mkIdent `hv):ident)
  | ((with_reducible refine' RD.irng1V ?rdA ?rdB ?rdK); (case rdA => first | decide | omega); (case rdB => first | decide | omega))
  | with_reducible refine RD.int1 ?_
  | with_reducible refine RD.abs1 ?_
  | ((with_reducible refine' RD.len ?rdH ?rdK); (case rdH => first | exact Or.inl (by walk_at "sq") | exact Or.inr (by walk_at "st")))
  | with_reducible refine RD.tup ?_
  | with_reducible refine RD.lst ?_
  | with_reducible refine RD.ite1 ?_
  | with_reducible refine RD.ite0 ?_
  | with_reducible refine RD.ite1n ?_
  | with_reducible refine RD.ite0n ?_
  | with_reducible refine RD.seq ?_
  | with_reducible refine RD.asg ?_
  | with_reducible refine RD.name ?_
  | with_reducible refine RD.ret ?_
  | with_reducible refine RD.drop ?_
  | with_reducible refine RD.next ?_
  | with_reducible refine RD.ifs ?_
  | with_reducible refine RD.par ?_
  | with_reducible refine RD.par2 ?_
  | with_reducible refine RD.sub ?_
  | with_reducible refine RD.gcons ?_
  | with_reducible refine RD.gnil ?_
  | with_reducible refine RD.bm ?_
  | ((with_reducible refine' RD.bmL ?rdH ?rdK); (case rdH => walk_at "sq"))
  | ((with_reducible refine' RD.newZ ?rdH ?rdK); (case rdH => exact RD.sz _); intro $(Lean.mkIdent `p'):ident $(Lean.mkIdent `H'):ident $(Lean.mkIdent `hp):ident $(Lean.mkIdent `hs):ident $(Lean.mkIdent `hv):ident; (try have $(Lean.mkIdent `hn):ident := hand_ne $(Lean.mkIdent `hp):ident (by walk_at "hk")))
  | with_reducible refine RD.fors ?_
  | with_reducible refine RD.lc ?_
  | with_reducible refine RD.yes ?_
  | with_reducible refine RD.ilist ?_
  | ((with_reducible refine' RD.ilistV ?rdH ?rdK); (case rdH => walk_at "sq"))
  | with_reducible refine RD.itup ?_
  | ((with_reducible refine' RD.itupV ?rdH ?rdK); (case rdH => walk_at "st"))
  | with_reducible refine RD.irng1 ?_
  | with_reducible refine RD.irng2 ?_
  | ((with_reducible refine' RD.irng2V ?rdA ?rdK); (case rdA => first | decide | omega))
  | with_reducible refine RD.ienum ?_
  | ((with_reducible refine' RD.ienumV ?rdH ?rdK); (case rdH => walk_at "sq"))
  | with_reducible refine RD.izip ?_
  | ((with_reducible refine' RD.izipV ?rdH ?rdE ?rdK); (case rdH => walk_at "sq"); (case rdE => walk_at "sq"))
  | with_reducible refine SPD.izipA ?_
  | with_reducible refine RD.istr ?_
  | with_reducible refine RD.istrV ?_
  | ((with_reducible refine' RD.slL ?rdH ?rdK); (case rdH => walk_at "sq"); intro $(Lean.mkIdent `p'):ident $(Lean.mkIdent `H'):ident $(Lean.mkIdent `hp):ident $(Lean.mkIdent `hs):ident $(Lean.mkIdent `hv):ident; (try have $(Lean.mkIdent `hn):ident := hand_ne $(Lean.mkIdent `hp):ident (by walk_at "hk")))
  | ((with_reducible refine' RD.cat ?rdH ?rdE ?rdZ ?rdK); (case rdH => walk_at "hp"); (case rdE => walk_at "hp"); (case rdZ => exact RD.sz _); intro $(Lean.mkIdent `p'):ident $(Lean.mkIdent `H'):ident $(Lean.mkIdent `hp):ident $(Lean.mkIdent `hs):ident $(Lean.mkIdent `hv):ident; (try have $(Lean.mkIdent `hn):ident := hand_ne $(Lean.mkIdent `hp):ident (by walk_at "hk")))
  | ((with_reducible refine' RD.gtup ?rdH ?rdE ?rdK); (case rdH => walk_at "st"); (case rdE => rfl))
  | ((with_reducible refine' RD.app ?rdH ?rdZ ?rdK); (case rdH => walk_at "hp"); (case rdZ => first | assumption | (apply RD.szl; omega)); intro $(Lean.mkIdent `H'):ident $(Lean.mkIdent `hk):ident $(Lean.mkIdent `hv):ident)
  | ((with_reducible refine' RD.all1 ?rdH ?rdK); (case rdH => walk_at "sq"))
  | ((with_reducible refine' RD.any1 ?rdH ?rdK); (case rdH => walk_at "sq"))
  | ((with_reducible refine' SPD.dnew ?rdK); intro $(Lean.mkIdent `p'):ident $(Lean.mkIdent `H'):ident $(Lean.mkIdent `hp):ident $(Lean.mkIdent `hs):ident $(Lean.mkIdent `hv):ident; (try have $(Lean.mkIdent `hn):ident := hand_ne $(Lean.mkIdent `hp):ident (by walk_at "hk")))
  | ((with_reducible refine' SPD.disp1 ?rdK); intro $(Lean.mkIdent `p'):ident $(Lean.mkIdent `H'):ident $(Lean.mkIdent `hp):ident $(Lean.mkIdent `hs):ident $(Lean.mkIdent `hv):ident; (try have $(Lean.mkIdent `hn):ident := hand_ne $(Lean.mkIdent `hp):ident (by walk_at "hk")))
  | ((with_reducible refine' SPD.isSeq ?rdH ?rdE ?rdK); (case rdH => walk_at "hp"); (case rdE => walk_at "kd"))
  | ((with_reducible refine' SPD.isTup ?rdE ?rdK); (case rdE => walk_at "kd"))
  | ((with_reducible refine' SPD.isLst ?rdE ?rdK); (case rdE => walk_at "kd"))
  | ((with_reducible refine' SPD.isBool ?rdE ?rdK); (case rdE => walk_at "kd"))
  | ((with_reducible refine' SPD.isStr ?rdE ?rdK); (case rdE => walk_at "kd"))
  | ((with_reducible refine' SPD.isInt ?rdE ?rdK); (case rdE => walk_at "kd"))
  | dsimp only)
local macro_rules | `(tactic| walk_at "rds") => `(tactic| repeat walk_at "rd")
local macro_rules | `(tactic| walk_at "sm") => `(tactic| first | assumption | exact Same.refl _ | exact RD.sm_tr (by assumption) (by walk_at "sm") | fail "no")
local macro_rules | `(tactic| walk_at "kb") => `(tactic| first | assumption | exact RD.KB.refl | exact RD.kb_tr (by assumption) (by walk_at "kb") | exact RD.kb_trs (by assumption) (by walk_at "kb") | fail "no")
local macro_rules | `(tactic| walk_at "fr") => `(tactic| first | assumption | exact RD.fr_of (by assumption) (by walk_at "sm") | fail "no")
local macro_rules | `(tactic| walk_at "hk") => `(tactic| first | assumption | exact hand_same (by assumption) (by walk_at "hk") | exact hand_kb (by assumption) (by walk_at "fr") (by walk_at "hk") | fail "no")
local macro_rules | `(tactic| walk_at "na") => `(tactic| first | assumption | exact hand_ne (by assumption) (by walk_at "hk") | fail "no")
local macro_rules | `(tactic| walk_at "dqa") => `(tactic| first | exact SPD.DqA.nil | exact SPD.DqA.cons (by walk_at "dq") (by walk_at "dqa") | exact SPD.DqA.app (by walk_at "dqa") (by walk_at "dqa") | fail "no")
local macro_rules | `(tactic| walk_at "dq") => `(tactic| first | assumption | exact SPD.Dq.leaf rfl | exact SPD.dq_kb (by assumption) (by walk_at "kb") | exact SPD.dqTup (by walk_at "hp") (by walk_at "na") (by walk_at "dqa") | exact SPD.dqLst (by walk_at "hp") (by walk_at "na") (by walk_at "dqa") | exact SPD.dqNil (by walk_at "hp") (by walk_at "na") (by first | decide | simp) (by first | decide | simp) | fail "no")

local macro_rules | `(tactic| walk_at "rd") => `(tactic| first
  | with_reducible refine RB.chain ?_
  | with_reducible refine RB.m1 ?_
  | with_reducible refine RB.strE ?_
  | with_reducible refine RB.fld ?_
  | with_reducible refine RB.setF ?_
  | with_reducible refine RB.ss ?_
  | with_reducible refine RB.rev ?_
  | with_reducible refine RB.make ?_
  | with_reducible refine RB.makeS ?_
  | with_reducible refine RB.mkO ?_
  | with_reducible refine NR.ienumT ?_
  | with_reducible refine RB.inS ?_
  | with_reducible refine RB.bmS ?_
  | with_reducible refine RB.callS ?_
  | with_reducible refine RB.sw3 ?_
  | with_reducible refine RB.par3 ?_
  | with_reducible refine RB.par3V ?_
  | ((with_reducible refine' RB.slS ?rdH ?rdK); (case rdH => walk_at "sz"))
  | with_reducible refine RB.xf ?_
  | ((with_reducible refine' RB.xfV ?rdH ?rdE ?rdK); (case rdH => walk_at "hp"); (case rdE => rfl))
  | ((with_reducible refine' NR.ienumTV ?rdH ?rdK); (case rdH => walk_at "st"))
  | ((with_reducible refine' RB.lenL ?rdH ?rdK); (case rdH => walk_at "sq"))
  | ((with_reducible refine' RB.lenT ?rdH ?rdK); (case rdH => walk_at "st"))
  | ((with_reducible refine' RB.lenS ?rdH ?rdK); (case rdH => walk_at "sz"))
  | ((with_reducible refine' RD.lenS ?rdH ?rdK); (case rdH => walk_at "sz"))
  | ((with_reducible refine' RB.slT ?rdH ?rdK); (case rdH => walk_at "hp"); intro $(Lean.mkIdent `p'):ident $(Lean.mkIdent `H'):ident $(Lean.mkIdent `hs):ident $(Lean.mkIdent `hv):ident $(Lean.mkIdent `hp):ident; (try have $(Lean.mkIdent `hn):ident := two_ne $(Lean.mkIdent `hp):ident (by walk_at "na") (by walk_at "hk")))
  | ((with_reducible refine' RB.revV ?rdH ?rdK); (case rdH => walk_at "st"); intro $(Lean.mkIdent `p'):ident $(Lean.mkIdent `H'):ident $(Lean.mkIdent `hp):ident $(Lean.mkIdent `hs):ident $(Lean.mkIdent `hv):ident; (try have $(Lean.mkIdent `hn):ident := hand_ne $(Lean.mkIdent `hp):ident (by walk_at "hk")))
  | ((with_reducible refine' RB.listS ?rdH ?rdK); (case rdH => walk_at "sz"); intro $(Lean.mkIdent `p'):ident $(Lean.mkIdent `H'):ident $(Lean.mkIdent `hp):ident $(Lean.mkIdent `hs):ident $(Lean.mkIdent `hv):ident; (try have $(Lean.mkIdent `hn):ident := hand_ne $(Lean.mkIdent `hp):ident (by walk_at "hk")))
  | ((with_reducible refine' RB.listO ?rdH ?rdK); (case rdH => first | exact Or.inl (by walk_at "sq") | exact Or.inr (by walk_at "st")); intro $(Lean.mkIdent `p'):ident $(Lean.mkIdent `H'):ident $(Lean.mkIdent `hp):ident $(Lean.mkIdent `hs):ident $(Lean.mkIdent `hv):ident; (try have $(Lean.mkIdent `hn):ident := hand_ne $(Lean.mkIdent `hp):ident (by walk_at "hk")))
  | ((with_reducible refine' RB.tupL ?rdH ?rdK); (case rdH => walk_at "sq"); intro $(Lean.mkIdent `p'):ident $(Lean.mkIdent `H'):ident $(Lean.mkIdent `hp):ident $(Lean.mkIdent `hs):ident $(Lean.mkIdent `hv):ident; (try have $(Lean.mkIdent `hn):ident := hand_ne $(Lean.mkIdent `hp):ident (by walk_at "hk")))
  | ((with_reducible refine' RB.catT ?rdH ?rdE ?rdZ ?rdK); (case rdH => walk_at "hp"); (case rdE => walk_at "hp"); (case rdZ => exact RB.LN.sum (by walk_at "ln") (by walk_at "ln") rfl); intro $(Lean.mkIdent `p'):ident $(Lean.mkIdent `H'):ident $(Lean.mkIdent `hs):ident $(Lean.mkIdent `hv):ident $(Lean.mkIdent `hp):ident; (try have $(Lean.mkIdent `hn):ident := three_ne $(Lean.mkIdent `hp):ident (by walk_at "na") (by walk_at "na") (by walk_at "hk")))
  | fail "no")
local macro_rules | `(tactic| walk_at "ln") => `(tactic| first | with_reducible assumption | exact RB.LN.cut (by walk_at "ln") | exact RB.LN.app (by walk_at "ln") (by walk_at "ln") | exact RB.LN.rev (by walk_at "ln") | exact RB.LN.rep (by walk_at "ln") | exact RB.LN.lit rfl | fail "no")
local macro_rules | `(tactic| walk_at "sz") => `(tactic| first | assumption | exact RD.sz _ | fail "no")

local macro_rules | `(tactic| walk_at "hp") => `(tactic| first | assumption | exact RD.at_same (by assumption) (by walk_at "hp") | exact SPE.at_kx (by assumption) (by walk_at "na") (by walk_at "hp") | exact RD.at_kb (by assumption) (by walk_at "ne") (by walk_at "hp") | fail "no")
local macro_rules | `(tactic| walk_at "sq") => `(tactic| first | assumption | exact Or.inl (Or.inl (by walk_at "hp")) | exact Same.seq (by assumption) (by walk_at "sq") | exact SPE.KX.seq (by assumption) (by walk_at "na") (by walk_at "sq") | exact RD.KB.seq (by assumption) (by walk_at "ne") (by walk_at "sq") | fail "no")
local macro_rules | `(tactic| walk_at "st") => `(tactic| first | assumption | exact Or.inl (Or.inl (by walk_at "hp")) | exact RD.Same.tup (by assumption) (by walk_at "st") | exact SPE.KX.tup (by assumption) (by walk_at "na") (by walk_at "st") | exact RD.KB.tup (by assumption) (by walk_at "ne") (by walk_at "st") | fail "no")
local macro_rules | `(tactic| walk_at "kx") => `(tactic| first | assumption | exact SPE.KX.refl | exact SPE.kx_tr (by assumption) (by walk_at "kx") | exact SPE.kx_trs (by assumption) (by walk_at "kx") | fail "no")
local macro_rules | `(tactic| walk_at "dqa") => `(tactic| first | exact SPE.DqA.nil | exact SPE.DqA.cons (by walk_at "dq") (by walk_at "dqa") | exact SPE.DqA.app (by walk_at "dqa") (by walk_at "dqa") | fail "no")
local macro_rules | `(tactic| walk_at "dq") => `(tactic| first | assumption | exact SPE.Dq.leaf rfl | exact SPE.dq_kx (by assumption) (by walk_at "kx") | exact SPE.dqTup (by walk_at "hp") (by walk_at "na") (by walk_at "dqa") | exact SPE.dqLst (by walk_at "hp") (by walk_at "na") (by walk_at "dqa") | exact SPE.dqNil (by walk_at "hp") (by walk_at "na") (by first | decide | simp) (by first | decide | simp) | fail "no")
local macro_rules | `(tactic| walk_at "dqx") => `(tactic| first | exact $(Lean.mkIdent `hdb):ident _ (by walk_at "kx") | exact SPE.DqA.cons (SPE.dq_kx (by assumption) (by walk_at "kx")) SPE.DqA.nil | exact SPE.DqA.cons (SPE.Dq.leaf rfl) SPE.DqA.nil | exact SPE.DqA.nil | (with_reducible refine SPE.dqa_cut ?_; walk_at "dqx") | (with_reducible refine SPE.dqa_rev ?_; walk_at "dqx") | (with_reducible refine SPE.DqA.app ?_ ?_ <;> walk_at "dqx") | fail "no")
local macro_rules | `(tactic| walk_at "dqz") => `(tactic| first | exact SPE.dqTupN (by walk_at "hp") (by walk_at "na") (by walk_at "dqx") (by walk_at "ln") rfl | exact SPE.dqLstN (by walk_at "hp") (by walk_at "na") (by walk_at "dqx") (by walk_at "ln") rfl | fail "no")
local macro_rules | `(tactic| walk_at "rd") => `(tactic| first
  | with_reducible refine SPE.revs ?_
  | ((with_reducible refine' SPE.revsV ?rdH ?rdK); (case rdH => walk_at "sz"))
  | ((with_reducible refine' SPE.sum1 ?rdH ?rdK); (case rdH => walk_at "sq"))
  | fail "no")

local macro_rules | `(tactic| walk_at "rd") => `(tactic| first
  | ((with_reducible refine' RB.listO ?rdH ?rdK); (case rdH => exact Or.inr (by walk_at "st")); intro $(Lean.mkIdent `p'):ident $(Lean.mkIdent `H'):ident $(Lean.mkIdent `hp):ident $(Lean.mkIdent `hs):ident $(Lean.mkIdent `hv):ident; (try have $(Lean.mkIdent `hn):ident := hand_ne $(Lean.mkIdent `hp):ident (by walk_at "hk")))
  | fail "no")

local macro_rules | `(tactic| walk_at "dk") => `(tactic| first | exact FR.rd_of (by walk_at "hp") | exact Or.inr ⟨_, by walk_at "hp"⟩ | fail "no")
local macro_rules | `(tactic| walk_at "rd") => `(tactic| first
  | with_reducible refine FR.dget ?_
  | with_reducible refine FR.din ?_
  | with_reducible refine FR.dnotin ?_
  | with_reducible refine FR.dc ?_
  | with_reducible refine FR.ikeys ?_
  | with_reducible refine FR.ivals ?_
  | with_reducible refine FR.bm0 ?_
  | ((with_reducible refine' FR.dinS ?rdH ?rdK); (case rdH => walk_at "dk"))
  | ((with_reducible refine' FR.keysV ?rdH ?rdK); (case rdH => walk_at "hp"))
  | ((with_reducible refine' FR.valsV ?rdH ?rdK); (case rdH => walk_at "hp"))
  | ((with_reducible refine' FR.bmD ?rdH ?rdK); (case rdH => walk_at "hp"))
  | with_reducible refine FR.ckw ?_
  | with_reducible refine FR.dget2 ?_
  | ((with_reducible refine' FR.isdV ?rdH ?rdK); (case rdH => walk_at "dk"))
  | ((with_reducible refine' FR.dg2S ?rdH ?rdK); (case rdH => walk_at "dk"))
  | ((with_reducible refine' FR.lenD ?rdH ?rdK); (case rdH => walk_at "hp"))
  | fail "no")

/-! ### pieces with idle logs beside; another book -/
theorem piece_lets {z : Str} (h : pieceB z = true) : ∀ c, c ∈ tl z → c ∈ lets := fun c hc => by
  unfold pieceB at h
  rw [Bool.and_eq_true] at h
  have h1 := h.1
  rw [← log_all] at h1
  have := List.all_eq_true.mp h1 (decide (c ∈ lets)) (List.mem_map.mpr ⟨c, hc, rfl⟩)
  exact of_decide_eq_true this
def spBeside : Sp := fun vs H Q _ => ∃ (x : SPE.AX) (t : Addr) (zs : List Str), vs = [.ref x.1, .ref t] ∧ BagOk H x ∧ H t = some (.tup (zs.map V.str)) ∧ Good zs ∧ ∀ (u : Addr) (ws : List Str) H', SPE.KX x H H' → BagOk H' x → H' u = some (.tup (ws.map V.str)) → Good ws → Q (.ref u) H'
theorem spBeside.mk {x : SPE.AX} {t : Addr} {zs : List Str} {H : Hp} {Q : VK} {E : XK} (h : BagOk H x) (ht : H t = some (.tup (zs.map V.str))) (g : Good zs)
    (q : ∀ (u : Addr) (ws : List Str) H', SPE.KX x H H' → BagOk H' x → H' u = some (.tup (ws.map V.str)) → Good ws → Q (.ref u) H') : spBeside ([.ref x.1, .ref t] ++ []) H Q E := ⟨x, t, zs, rfl, h, ht, g, q⟩
theorem good_snoc {zs : List Str} {z : Str} (g : Good zs) (hp : pieceB z = true) (hn : z ∉ zs) (hl : zs.length < 12) : Good (zs ++ [z]) :=
  ⟨by rw [List.length_append]; have := g.some; omega, by rw [List.length_append, List.length_singleton]; omega, fun y hy => by
    rcases List.mem_append.mp hy with h | h
    · exact g.piece y h
    · rw [List.mem_singleton.mp h]
      exact hp, List.nodup_append.mpr ⟨g.once, by simp, fun a ha b hb e => by
    rw [List.mem_singleton] at hb
    exact hn (by rw [← hb, ← e]; exact ha)⟩⟩
theorem good_set {zs : List Str} {z : Str} {a : Nat} (g : Good zs) (hp : pieceB z = true) (hn : z ∉ zs) (ha : a < zs.length) : Good (zs.take a ++ [z] ++ zs.drop (a + 1)) := by
  have e : (zs.take a ++ [z] ++ zs.drop (a + 1)).Perm (z :: zs.eraseIdx a) := by
    rw [List.append_assoc, List.eraseIdx_eq_take_drop_succ]
    exact List.perm_middle
  have hl : (zs.take a ++ [z] ++ zs.drop (a + 1)).length = zs.length := by
    rw [List.length_append, List.length_append, List.length_take, List.length_drop, List.length_singleton]
    omega
  refine ⟨by rw [hl]; exact g.some, by rw [hl]; exact g.few, fun y hy => ?_, ?_⟩
  · rcases List.mem_cons.mp (e.mem_iff.mp hy) with h | h
    · rw [h]
      exact hp
    · exact g.piece y (List.mem_of_mem_eraseIdx h)
  · rw [e.nodup_iff]
    exact List.nodup_cons.mpr ⟨fun h => hn (List.mem_of_mem_eraseIdx h), g.once.sublist (List.eraseIdx_sublist zs a)⟩
theorem cut_set {zs : List Str} {z : Str} {a : Nat} : (cutV (zs.map V.str) none (some (a : Int)) ++ [V.str z]) ++ cutV (zs.map V.str) (some ((a : Int) + 1)) none = (zs.take a ++ [z] ++ zs.drop (a + 1)).map V.str := by
  have e1 : cutV (zs.map V.str) none (some (a : Int)) = (zs.take a).map V.str := by
    unfold cutV
    rw [HT.sIx_none, HT.sIx_nat, List.drop_zero, Nat.sub_zero, List.map_take]
    rcases Nat.le_total a (zs.map V.str).length with h | h
    · rw [Nat.min_eq_left h]
    · rw [Nat.min_eq_right h, List.take_length, List.take_of_length_le h]
  have e2 := cut_erase (zs := zs) (i := a)
  rw [e1, List.eraseIdx_eq_take_drop_succ, List.map_append] at e2
  have e3 := List.append_cancel_left e2
  rw [e1, e3, List.map_append, List.map_append]
  rfl
section
variable {P : Program} {w : World} {K : PySem.W.Frag} {mg : Str → Option Value} {base : Heap}
theorem ok_beside (T : Txt P K mg) : FnOk P w K mg base CX0 4 T.a_beside T.fd_beside ["_law_bag_here", "_law_pieces"] spBeside := by
  have nd := sc_beside.nd
  have G_pick : FnOk P w K mg base CX0 3 T.a_pick T.fd_pick ["_law_bag_here", "_law_many"] spPick := (ok_pick T).mono (by decide)
  have G_some : FnOk P w K mg base CX0 3 T.a_some T.fd_some ["_law_bag_here", "_law_things"] (spSome K) := (ok_some T).mono (by decide)
  refine T.F_beside.ok sc_beside (fun vs H Q E h => ?_) (fun cdv A outer s H vs Q E hr h => ?_)
  · obtain ⟨x, t, zs, rfl, _⟩ := h
    rfl
  · obtain ⟨x, t, zs, rfl, hh, ht, g, q⟩ := h
    refine ⟨_, (pss_cons (ps_set (i := 2) nd rfl (by first | exact Or.inl rfl | exact Or.inr rfl) (pe_callTy RB.call_listO (by rfl) T.m_list (by decide +kernel) (pa_cons (pv 1) pa_nil)))
  (pss_cons (ps_for PassesOwn.never rfl (pi_range1 (by rfl) T.m_range (pa_cons (pe_call G_pick hr (by rfl) T.g_pick T.F_pick.kp T.b_pick .nil pass0 (pa_cons (pv 0) (pa_cons pe_int pa_nil))) pa_nil)) (pg_name (i := 3) nd rfl (by first | exact Or.inl rfl | exact Or.inr rfl))
    (pss_cons (ps_set (i := 4) nd rfl (by first | exact Or.inl rfl | exact Or.inr rfl) pe_str)
  (pss_cons (ps_for PassesOwn.never rfl (pi_range1 (by rfl) T.m_range (pa_cons (pe_op op_add pe_int (pe_call G_pick hr (by rfl) T.g_pick T.F_pick.kp T.b_pick .nil pass0 (pa_cons (pv 0) (pa_cons pe_int pa_nil)))) pa_nil)) (pg_name (i := 5) nd rfl (by first | exact Or.inl rfl | exact Or.inr rfl))
    (pss_cons (ps_set (i := 6) nd rfl (by first | exact Or.inl rfl | exact Or.inr rfl) (pe_call G_pick hr (by rfl) T.g_pick T.F_pick.kp T.b_pick .nil pass0 (pa_cons (pv 0) (pa_cons (pe_op op_add (pe_callB call_len_str (by rfl) T.m_len PySem.boot_len (pa_cons (pv 4) pa_nil)) pe_int) pa_nil))))
  (pss_one (ps_set (i := 4) nd rfl (by first | exact Or.inl rfl | exact Or.inr rfl) (pe_op op_add_str (pe_op op_add_str (pe_slice sl_str (pv 4) po_none (po_some (pv 6))) (pe_call G_some hr (by rfl) T.g_some T.F_some.kp T.b_some .nil pass0 (pa_cons (pv 0) (pa_cons (pv 2) pa_nil)))) (pe_slice sl_str (pv 4) (po_some (pv 6)) po_none))))))
  (pss_one (ps_if (PW.pt (pw_and (pt_cmpR op_le (pe_callB call_len_str (by rfl) T.m_len PySem.boot_len (pa_cons (pv 4) pa_nil)) pe_int (nomark _)) (pw_and (pt_cmpR op_notIn_seq (pv 4) (pv 2) (by first | rfl | exact nomark _)) (pw_and1 (pt_cmpR op_lt (pe_callB call_len_seq (by rfl) T.m_len PySem.boot_len (pa_cons (pv 2) pa_nil)) pe_int (nomark _))))))
    (pss_one (ps_expr (pe_bm PySem.F.plainAttrs_list PySem.F.slot_list_append PySem.F.type_list_append mt_append (pv 2) (pa_cons (pv 4) pa_nil))))
    pss_nil)))))
  (pss_cons (ps_set (i := 7) nd rfl (by first | exact Or.inl rfl | exact Or.inr rfl) (pe_lst pa_nil))
  (pss_cons (ps_for PassesOwn.never rfl (pi_range1 (by rfl) T.m_range (pa_cons (pe_callB call_len_seq (by rfl) T.m_len PySem.boot_len (pa_cons (pv 2) pa_nil)) pa_nil)) (pg_name (i := 3) nd rfl (by first | exact Or.inl rfl | exact Or.inr rfl))
    (pss_one (ps_expr (pe_bm PySem.F.plainAttrs_list PySem.F.slot_list_append PySem.F.type_list_append mt_append (pv 7) (pa_cons (pe_bm PySem.F.plainAttrs_list PySem.F.slot_list_pop PySem.F.type_list_pop mt_popAt (pv 2) (pa_cons (pe_call G_pick hr (by rfl) T.g_pick T.F_pick.kp T.b_pick .nil pass0 (pa_cons (pv 0) (pa_cons (pe_callB call_len_seq (by rfl) T.m_len PySem.boot_len (pa_cons (pv 2) pa_nil)) pa_nil))) pa_nil)) pa_nil)))))
  (pss_one (ps_ret (pe_callTy RB.call_tupO (by rfl) T.m_tuple (by decide +kernel) (pa_cons (pv 7) pa_nil)))))))), ?_⟩
    have el : ∀ x : Str, x.length = x.cps.size := fun _ => rfl
    have ap : ∀ x y : Str, (x ++ y).cps.size = x.cps.size + y.cps.size := app_size
    have hg12 := g.few
    have hml0 : (zs.map V.str).length = zs.length := List.length_map ..
    walk_at "rds"
    have hf0 := hv
    have of := hn
    have sf := hs
    clear hv hn hs
    generalize p' = f at hf0 of hp ⊢
    generalize H' = H1 at hf0 sf ⊢
    have hHf : ∀ b o', H b = some o' → b ≠ f := fun b o' e z => by
      subst z
      rw [hp] at e
      cases e
    refine spPick.mk (E := E0) (hh.same sf) (by decide) (by decide) fun n H2 hn0 hn1 k2 hh2 => ?_
    have hf2 := k2 _ _ of hf0
    have k02 := (SPE.kx_of sf).trans k2
    clear hp hf0 sf k2
    walk_at "rds"
    refine RD.forW (walk_range (lo := 0) (n := Int.toNat n)) (fun i σ H' => ∃ (acc : List Str) (x3 x4 x5 x6 x7 : Option V), σ = [some (.ref x.1), some (.ref t), some (.ref f), x3, x4, x5, x6, x7] ∧ SPE.KX x H H' ∧ BagOk H' x ∧ H' f = some (.lst (acc.map V.str)) ∧ Good acc)
      ⟨zs, _, _, _, _, _, rfl, k02, hh2, hf2, g⟩ (fun _ _ _ _ _ => trivial) (fun i v σ H3 H4 hi hp hy => ?_) (fun σ H3 hp => ?_)
    · obtain ⟨acc, x3, x4, x5, x6, x7, rfl, k3, hh3, hf3, ga⟩ := hp
      obtain ⟨rfl, rfl⟩ := hy
      have g12 := ga.few
      have g1 := ga.some
      have hml : (acc.map V.str).length = acc.length := List.length_map ..
      clear k02 hh2 hf2
      walk_at "rds"
      refine spPick.mk (E := E0) hh3 (by decide) (by decide) fun r H5 hr0 hr1 k5 hh5 => ?_
      have hf5 := k5 _ _ of hf3
      have k05 := k3.trans k5
      clear k3 k5 hh3 hf3
      walk_at "rds"
      refine RD.forW (walk_range (lo := 0) (n := Int.toNat (1 + r))) (fun j σ H' => ∃ (z : Str) (x3 x5 x6 x7 : Option V), σ = [some (.ref x.1), some (.ref t), some (.ref f), x3, some (.str z), x5, x6, x7] ∧ SPE.KX x H H' ∧ BagOk H' x ∧ H' f = some (.lst (acc.map V.str)) ∧ z.cps.size ≤ 8 * j ∧ (1 ≤ j → 1 ≤ z.cps.size) ∧ ∀ c, c ∈ tl z → c ∈ lets)
        ⟨"", _, _, _, _, rfl, k05, hh5, hf5, by decide, fun h => absurd h (by decide), fun c hc => by cases hc⟩ (fun _ _ _ _ _ => trivial) (fun j v σ H6 H7 hj hp hy => ?_) (fun σ H6 hp => ?_)
      · obtain ⟨z, x3, x5, x6, x7, rfl, k6, hh6, hf6, hz8, hz1, hzl⟩ := hp
        obtain ⟨rfl, rfl⟩ := hy
        have hj4 : j < 4 := by omega
        have hzs : z.length ≤ sizeLine := RD.szo (by rw [el]; omega)
        clear k05 hh5 hf5
        walk_at "rds"
        refine spPick.mk (E := E0) hh6 (by rw [el]; omega) (by rw [el]; omega) fun a H8 ha0 ha1 k8 hh8 => ?_
        have hf8 := k8 _ _ of hf6
        have k08 := k6.trans k8
        obtain ⟨a, rfl⟩ : ∃ k : Nat, a = (k : Int) := ⟨a.toNat, (Int.toNat_of_nonneg ha0).symm⟩
        have ha2 : a ≤ z.cps.size := by
          rw [el] at ha1
          omega
        clear k6 k8 hh6 hf6
        walk_at "rds"
        refine spSome.mk (E := E0) hh8 (.lst of (.inl (.inl hf8))) (by rw [hml]; omega) (by rw [hml]; omega) fun v H9 hv k9 hh9 => ?_
        obtain ⟨y, hy, rfl⟩ := List.mem_map.mp hv
        have hy8 := piece_size (ga.piece y hy)
        have hyl := piece_lets (ga.piece y hy)
        have hf9 := k9 _ _ of hf8
        have k09 := k08.trans k9
        have c1 := cut_size z none (some (a : Int))
        have c2 := cut_size z (some (a : Int)) none
        have hps := putZ_size z y (p := a)
        clear k08 k9 hh8 hf8
        walk_at "rds"
        refine RB.addS (RD.szo (by rw [el, el]; omega)) ?_
        walk_at "rds"
        refine RB.addS (RD.szo (by rw [el, el, ap]; omega)) ?_
        walk_at "rds"
        refine ⟨putZ z y a, _, _, _, _, rfl, k09, hh9, hf9, by rw [hps]; omega, fun _ => by rw [hps]; omega, fun c hc => ?_⟩
        rw [tl_putZ] at hc
        rcases List.mem_append.mp hc with h | h
        · rcases List.mem_append.mp h with h | h
          · exact hzl c (List.mem_of_mem_take h)
          · exact hyl c h
        · exact hzl c (List.mem_of_mem_drop h)
      · obtain ⟨z, x3, x5, x6, x7, rfl, k6, hh6, hf6, hz8, hz1, hzl⟩ := hp
        have hz1 := hz1 (by omega)
        have hzs : z.length ≤ sizeLine := RD.szo (by rw [el]; omega)
        have hsz : (acc.map V.str).length < sizeLine := RD.szl (by omega)
        clear k05 hh5 hf5
        walk_at "rds"
        refine RD.ite_d (fun hle => ?_) (fun _ => ?_)
        · rw [el] at hle
          walk_at "rds"
          refine RB.ninT (.inl (.inl (.inl hf6))) rfl (flat_acc acc) ?_
          rw [inV_strs]
          walk_at "rds"
          refine RD.ite_b (fun e => ?_) (fun e => ?_)
          · have e : acc.contains z = false := by simpa using e
            have hzn : z ∉ acc := fun m => by
              rw [List.contains_iff_mem.mpr m] at e
              cases e
            walk_at "rds"
            refine RD.ite_d (fun h2 => ?_) (fun _ => ?_)
            · walk_at "rds"
              exact ⟨acc ++ [z], _, _, _, _, _, rfl, fun b o' nb eb => hk b o' (hHf b o' eb) (k6 b o' nb eb), hh6.mut hk of, by rw [hv, List.map_append]; rfl, good_snoc ga (pieceB_of hz1 (by omega) hzl) hzn (by omega)⟩
            · walk_at "rds"
              exact ⟨acc, _, _, _, _, _, rfl, k6, hh6, hf6, ga⟩
          · walk_at "rds"
            exact ⟨acc, _, _, _, _, _, rfl, k6, hh6, hf6, ga⟩
        · walk_at "rds"
          exact ⟨acc, _, _, _, _, _, rfl, k6, hh6, hf6, ga⟩
    · obtain ⟨ws, x3, x4, x5, x6, x7, rfl, k7, hh7, hD7, gw⟩ := hp
      clear hh2 hf2 k02
      have hml : (ws.map V.str).length = ws.length := List.length_map ..
      have gwf := gw.few
      have gws := gw.some
      walk_at "rds"
      have hfp : H p' = none := kx_free k7 hn hp
      have nDp : f ≠ p' := ne_of_none hD7 hp
      have hD8 := hs _ _ hD7
      have hh8 := hh7.same hs
      have k8 := k7.trans (SPE.kx_of hs)
      clear hD7 hh7 k7 hs hp
      refine RD.forW (walk_range (lo := 0) (n := ((ws.map V.str).length : Int).toNat)) (fun i σ H' => ∃ (rs fs : List Str) (x3 : Option V), σ = [some (.ref x.1), some (.ref t), some (.ref f), x3, x4, x5, x6, some (.ref p')] ∧ SPE.KX x H H' ∧ BagOk H' x ∧ H' f = some (.lst (fs.map V.str)) ∧ H' p' = some (.lst (rs.map V.str)) ∧ rs.length = i ∧ (rs ++ fs).Perm ws)
        ⟨[], ws, _, rfl, k8, hh8, hD8, hv, rfl, List.Perm.refl _⟩ (fun _ _ _ _ _ => trivial) (fun i v σ H9 H10 hi hp hy => ?_) (fun σ H9 hp => ?_)
      · obtain ⟨rs, fs, x3, rfl, k9, hh9, hD9, hp9, hrl, hpm⟩ := hp
        obtain ⟨rfl, rfl⟩ := hy
        clear k8 hh8 hD8 hv
        have hfl : rs.length + fs.length = ws.length := by
          have := hpm.length_eq
          rwa [List.length_append] at this
        have hmf : (fs.map V.str).length = fs.length := List.length_map ..
        have hmr : (rs.map V.str).length = rs.length := List.length_map ..
        walk_at "rds"
        refine spPick.mk (E := E0) hh9 (by omega) (by omega) fun r H11 hr0 hr1 k11 hh11 => ?_
        obtain ⟨k, rfl⟩ : ∃ k : Nat, r = (k : Int) := ⟨r.toNat, (Int.toNat_of_nonneg hr0).symm⟩
        have hk : k < fs.length := by omega
        have hD11 := k11 _ _ of hD9
        have hp11 := k11 _ _ hn hp9
        have hix : seqIndex? (k : Int) (fs.map V.str).length = some k := by
          unfold seqIndex?
          rw [hmf]
          have e1 : ¬ ((k : Int) < 0) := by omega
          simp [e1, hk]
        walk_at "rds"
        refine SPE.popAt hD11 ⟨by omega, by omega⟩ hix (by rw [List.getElem?_map, List.getElem?_eq_getElem hk]; rfl) fun H12 k12 h12 => ?_
        have hp12 := k12 _ _ nDp.symm hp11
        have hsz : (rs.map V.str).length < sizeLine := RD.szl (by omega)
        have k012 : SPE.KX x H H12 := fun b o' nb eb => k12 b o' (hHf b o' eb) ((k9.trans k11) b o' nb eb)
        have hh12 := hh11.mut k12 of
        clear k9 hh9 hD9 hp9 k11 hh11 hD11 hp11
        walk_at "rds"
        refine ⟨rs ++ [fs[k]], fs.eraseIdx k, _, rfl, SPE.kx_mut hk k012 hfp, hh12.mut hk hn, ?_, ?_, by rw [List.length_append, hrl]; rfl, ?_⟩
        · rw [← erase_map]
          exact hk _ _ nDp h12
        · rw [List.map_append]
          exact hv
        · rw [List.append_assoc]
          exact ((erase_perm (l := fs) (k := k) (by omega)).append_left rs).trans hpm
      · obtain ⟨rs, fs, x3, rfl, k9, hh9, hD9, hp9, hrl, hpm⟩ := hp
        clear k8 hh8 hD8 hv
        have hfl : rs.length + fs.length = ws.length := by
          have := hpm.length_eq
          rwa [List.length_append] at this
        have hfs : fs = [] := List.eq_nil_of_length_eq_zero (by rw [hml] at hrl; omega)
        subst hfs
        rw [List.append_nil] at hpm
        walk_at "rds"
        exact q _ rs _ (by walk_at "kx") (by walk_at "hk") hv (good_perm hpm gw)
theorem ok_other (T : Txt P K mg) : FnOk P w K mg base CX0 5 T.a_other T.fd_other ["_law_bag_here", "_law_pieces"] spBeside := by
  have nd := sc_other.nd
  have G_pick : FnOk P w K mg base CX0 4 T.a_pick T.fd_pick ["_law_bag_here", "_law_many"] spPick := (ok_pick T).mono (by decide)
  have G_some : FnOk P w K mg base CX0 4 T.a_some T.fd_some ["_law_bag_here", "_law_things"] (spSome K) := (ok_some T).mono (by decide)
  have G_own : FnOk P w K mg base CX0 4 T.a_own T.fd_own ["_law_pieces"] spOwn := (ok_own T).mono (by decide)
  have G_beside : FnOk P w K mg base CX0 4 T.a_beside T.fd_beside ["_law_bag_here", "_law_pieces"] spBeside := ok_beside T
  refine T.F_other.ok sc_other (fun vs H Q E h => ?_) (fun cdv A outer s H vs Q E hr h => ?_)
  · obtain ⟨x, t, zs, rfl, _⟩ := h
    rfl
  · obtain ⟨x, t, zs, rfl, hh, ht, g, q⟩ := h
    refine ⟨_, (pss_cons (ps_set (i := 2) nd rfl (by first | exact Or.inl rfl | exact Or.inr rfl) (pe_call G_pick hr (by rfl) T.g_pick T.F_pick.kp T.b_pick .nil pass0 (pa_cons (pv 0) (pa_cons pe_int pa_nil))))
  (Evl.pss_cut (ps_if (PW.pt (pw_and (pt_cmpR op_eq (pv 2) pe_int (nomark _)) (pw_and1 (pt_cmpR op_gt (pe_callB call_len_seq (by rfl) T.m_len PySem.boot_len (pa_cons (pv 1) pa_nil)) pe_int (nomark _)))))
    (pss_cons (ps_set (i := 3) nd rfl (by first | exact Or.inl rfl | exact Or.inr rfl) (pe_call G_pick hr (by rfl) T.g_pick T.F_pick.kp T.b_pick .nil pass0 (pa_cons (pv 0) (pa_cons (pe_callB call_len_seq (by rfl) T.m_len PySem.boot_len (pa_cons (pv 1) pa_nil)) pa_nil))))
  (pss_one (ps_ret (pe_op op_catA (pe_slice sl_tupA (pv 1) po_none (po_some (pv 3))) (pe_slice sl_tupA (pv 1) (po_some (pe_op op_add (pv 3) pe_int)) po_none)))))
    pss_nil)
  (pss_cons (ps_if (pt_cmpR op_eq (pv 2) pe_int (nomark _))
    (pss_cons (ps_par (i := 3) (j := 4) rfl nd rfl rfl (by decide) rfl rfl (pa_cons (pe_call G_pick hr (by rfl) T.g_pick T.F_pick.kp T.b_pick .nil pass0 (pa_cons (pv 0) (pa_cons (pe_callB call_len_seq (by rfl) T.m_len PySem.boot_len (pa_cons (pv 1) pa_nil)) pa_nil))) (pa_cons (pe_slice sl_str (pe_op op_add_str (pe_call G_some hr (by rfl) T.g_some T.F_some.kp T.b_some .nil pass0 (pa_cons (pv 0) (pa_cons (pe_callTy RB.call_listO (by rfl) T.m_list (by decide +kernel) (pa_cons (pv 1) pa_nil)) pa_nil))) (pe_call G_own hr (by rfl) T.g_own T.F_own.kp T.b_own .nil pass0 (pa_cons (pv 1) pa_nil))) po_none (po_some pe_int)) pa_nil)) (by rfl))
  (pss_one (ps_ret (pe_ifExp (pt_cmpR op_in_seq (pv 4) (pv 1) (by first | rfl | exact nomark _)) (pv 1) (pe_op op_catA (pe_op op_catA (pe_slice sl_tupA (pv 1) po_none (po_some (pv 3))) (pe_tup (pa_cons (pv 4) pa_nil))) (pe_slice sl_tupA (pv 1) (po_some (pe_op op_add (pv 3) pe_int)) po_none))))))
    pss_nil)
  (pss_one (ps_ret (pe_call G_beside hr (by rfl) T.g_beside T.F_beside.kp T.b_beside .nil pass0 (pa_cons (pv 0) (pa_cons (pv 1) pa_nil)))))))), ?_⟩
    have el : ∀ x : Str, x.length = x.cps.size := fun _ => rfl
    have ap : ∀ x y : Str, (x ++ y).cps.size = x.cps.size + y.cps.size := app_size
    have g12 := g.few
    have g1 := g.some
    have hsum := g.sum
    have hml : (zs.map V.str).length = zs.length := List.length_map ..
    walk_at "rds"
    refine spPick.mk (E := E0) hh (by decide) (by decide) fun r H1 hr0 hr1 k1 hh1 => ?_
    have kt : ∀ {H1 H2 : Hp}, SPE.KX x H1 H2 → BagOk H1 x → ∀ a xs, H1 a = some (.tup xs) → H2 a = some (.tup xs) := fun k hh a xs e => k a _ (hh.tupOff e) e
    have ht1 := kt k1 hh _ _ ht
    walk_at "rds"
    refine ⟨fun σ' H' => σ' = [some (.ref x.1), some (.ref t), some (.int r), none, none] ∧ H' = H1, ?_, ?_⟩
    · walk_at "rds"
      refine RD.ite_d (fun h0 => ?_) (fun h0 => ?_)
      · walk_at "rds"
        refine RD.ite_d (fun h1 => ?_) (fun h1 => ?_)
        · walk_at "rds"
          refine spPick.mk (E := E0) hh1 (by omega) (by omega) fun a H2 ha0 ha1 k2 hh2 => ?_
          obtain ⟨a, rfl⟩ : ∃ k : Nat, a = (k : Int) := ⟨a.toNat, (Int.toNat_of_nonneg ha0).symm⟩
          have ht2 := kt k2 hh1 _ _ ht1
          iterate 9 (walk_at "rd")
          refine RB.slT ht2 fun p1 H4 s4 h4 _ => ?_
          iterate 9 (walk_at "rd")
          refine RB.slT (s4 _ _ ht2) fun p2 H5 s5 h5 _ => ?_
          refine RB.catT (s5 _ _ h4) h5 (RD.szo (by have := cutV_len (zs.map V.str) none (some (a : Int)); have := cutV_len (zs.map V.str) (some ((a : Int) + 1)) none; omega)) fun p3 H6 s6 h6 _ => ?_
          rw [cut_erase] at h6
          have s26 := (s4.trans s5).trans s6
          walk_at "rds"
          exact q _ _ _ (k1.trans (k2.trans (SPE.kx_of s26))) (hh2.same s26) h6 (good_erase g (by omega) (by omega))
        · walk_at "rds"
          exact ⟨rfl, rfl⟩
      · walk_at "rds"
        exact ⟨rfl, rfl⟩
    · rintro σ' H' ⟨rfl, rfl⟩
      walk_at "rds"
      refine RD.ite_d (fun h0 => ?_) (fun h0 => ?_)
      · walk_at "rds"
        refine spPick.mk (E := E0) hh1 (by omega) (by omega) fun a H2 ha0 ha1 k2 hh2 => ?_
        obtain ⟨a, rfl⟩ : ∃ k : Nat, a = (k : Int) := ⟨a.toNat, (Int.toNat_of_nonneg ha0).symm⟩
        have ht2 := kt k2 hh1 _ _ ht1
        walk_at "rds"
        have hh3 := hh2.same hs
        refine spSome.mk (E := E0) hh3 (.lst hn (.inl (.inl hv))) (by rw [hml]; omega) (by rw [hml]; omega) fun v H4 hm k4 hh4 => ?_
        obtain ⟨y, hy, rfl⟩ := List.mem_map.mp hm
        have hy8 := piece_size (g.piece y hy)
        have hyl := piece_lets (g.piece y hy)
        have ht4 := kt k4 hh3 _ _ (hs _ _ ht2)
        have k04 := (k1.trans (k2.trans (SPE.kx_of hs))).trans k4
        clear k1 k2 k4 hs hv hn hp hh3 hh2 hh1 ht2 ht1
        walk_at "rds"
        refine ⟨t, zs, rfl, ht4, by omega, fun ys H5 ho s5 => ?_⟩
        obtain ⟨cs, rfl, hnd, hcs⟩ := own_signs ho
        have hos := own_small ho (by rw [join_size]; omega)
        have hjs := join_size (cs.map fun c => (⟨#[c]⟩ : Str))
        have hjl := cs_join cs
        have hol : ∀ c, c ∈ tl (Txt.join ("" : Str) (cs.map fun c => (⟨#[c]⟩ : Str))) → c ∈ lets := fun c hc => by
          have hc : c ∈ (Txt.join ("" : Str) (cs.map fun c => (⟨#[c]⟩ : Str))).cps.toList := hc
          rw [hjl] at hc
          have := (hcs c).mp hc
          rw [join_cps] at this
          obtain ⟨l, hl, hcl⟩ := List.mem_flatten.mp this
          obtain ⟨y2, hy2, rfl⟩ := List.mem_map.mp hl
          exact piece_lets (g.piece y2 hy2) c hcl
        have ho1 : (Txt.join ("" : Str) (cs.map fun c => (⟨#[c]⟩ : Str))).cps.size ≤ 4000 := by omega
        generalize Txt.join ("" : Str) (cs.map fun c => (⟨#[c]⟩ : Str)) = o at hol ho1
        have ht5 := s5 _ _ ht4
        have hh5 := hh4.same s5
        have k05 := k04.trans (SPE.kx_of s5)
        clear ho hcs hos hjs hjl hnd k04 s5 ht4 hh4
        have hyo : (y ++ o).length ≤ sizeLine := RD.szo (by rw [el, ap]; omega)
        refine ⟨y, o, rfl, rfl, RD.szo (by rw [el, el]; omega), ?_⟩
        walk_at "rds"
        have ez : tl (cutS (y ++ o) none (some 8)) = (tl y ++ tl o).take 8 := by rw [← tl_app]; exact tl_take _ 8
        have hz0 : (cutS (y ++ o) none (some 8)).cps.size = min 8 (y.cps.size + o.cps.size) := by
          rw [← tl_size, ez, List.length_take, List.length_append, tl_size, tl_size]
        have hzp : pieceB (cutS (y ++ o) none (some 8)) = true := pieceB_of (by omega) (by omega) fun c hc => by
          have hc : c ∈ tl (cutS (y ++ o) none (some 8)) := hc
          rw [ez] at hc
          rcases List.mem_append.mp (List.mem_of_mem_take hc) with h | h
          · exact hyl c h
          · exact hol c h
        generalize cutS (y ++ o) none (some 8) = z at ez hz0 hzp ⊢
        refine RB.inT (.inr (.inl (.inl ht5))) rfl (flat_acc zs) ?_
        rw [inV_strs]
        refine ⟨_, rfl, RD.ite_b (fun e => ?_) (fun e => ?_)⟩
        · walk_at "rds"
          exact q _ _ _ k05 hh5 ht5 g
        · have hzn : z ∉ zs := fun m => by
            rw [List.contains_iff_mem.mpr m] at e
            cases e
          iterate 8 (walk_at "rd")
          refine RB.slT ht5 fun p1 H6 s6 h6 _ => ?_
          have ht6 := s6 _ _ ht5
          clear hyo
          iterate 5 (walk_at "rd")
          have c1 := cutV_len (zs.map V.str) none (some (a : Int))
          have c2 := cutV_len (zs.map V.str) (some ((a : Int) + 1)) none
          refine RB.catT (hs _ _ h6) hv (RD.szo (by rw [List.length_singleton]; omega)) fun p7 H7 s7 h7 _ => ?_
          have ht7 := s7 _ _ (hs _ _ ht6)
          have s57 := s6.trans (hs.trans s7)
          clear hs hv hp hn s6 h6 s7
          iterate 9 (walk_at "rd")
          refine RB.slT ht7 fun p8 H8 s8 h8 _ => ?_
          refine RB.catT (s8 _ _ h7) h8 (RD.szo (by rw [List.length_append, List.length_singleton]; omega)) fun p9 H9 s9 h9 _ => ?_
          rw [cut_set] at h9
          have s59 := s57.trans (s8.trans s9)
          exact q _ _ _ (k05.trans (SPE.kx_of s59)) (hh5.same s59) h9 (good_set g hzp hzn (by omega))
      · walk_at "rds"
        exact spBeside.mk hh1 ht1 g fun u ws H2 k2 => q u ws H2 (k1.trans k2)
end


end K27

namespace K27
open PySem PySem.Spec PyProof.Rows L2
local macro_rules | `(tactic| walk_at "kd") => `(tactic| first | assumption | exact SPD.KdOf.int _ | exact SPD.KdOf.str _ | exact SPD.KdOf.bl _ | exact SPD.KdOf.non | exact SPD.KdOf.same (by assumption) (by walk_at "kd") | exact SPD.KdOf.tup (by walk_at "hp") | exact SPD.KdOf.lst (by walk_at "hp") | fail "no")
local macro_rules | `(tactic| walk_at "ne") => `(tactic| first | assumption | exact Ne.symm (by assumption) | fail "no")
local macro_rules | `(tactic| walk_at "hp") => `(tactic| first | assumption | exact RD.at_same (by assumption) (by walk_at "hp") | exact RD.at_kb (by assumption) (by walk_at "ne") (by walk_at "hp") | fail "no")
local macro_rules | `(tactic| walk_at "sq") => `(tactic| first | assumption | exact Or.inl (Or.inl (by walk_at "hp")) | exact Same.seq (by assumption) (by walk_at "sq") | exact RD.KB.seq (by assumption) (by walk_at "ne") (by walk_at "sq") | fail "no")
local macro_rules | `(tactic| walk_at "st") => `(tactic| first | assumption | exact Or.inl (Or.inl (by walk_at "hp")) | exact RD.Same.tup (by assumption) (by walk_at "st") | exact RD.KB.tup (by assumption) (by walk_at "ne") (by walk_at "st") | fail "no")
local macro_rules | `(tactic| walk_at "rd") => `(tactic| first
  | with_reducible refine RD.c ?_
  | ((with_reducible refine' RD.var ?rdE ?rdK); (case rdE => exact rfl))
  | with_reducible refine RD.op ?_
  | with_reducible refine RD.un ?_
  | with_reducible refine RD.nil ?_
  | with_reducible refine RD.cons ?_
  | with_reducible refine RD.cb ?_
  | with_reducible refine RD.call ?_
  | with_reducible refine RD.test ?_
  | with_reducible refine RD.tb' ?_
  | with_reducible refine RD.bl ?_
  | with_reducible refine RD.and' ?_
  | with_reducible refine RD.or' ?_
  | with_reducible refine RD.not' ?_
  | with_reducible refine RD.andV ?_
  | with_reducible refine RD.orV ?_
  | with_reducible refine RD.notV ?_
  | with_reducible refine RD.ife ?_
  | with_reducible refine RD.sl ?_
  | with_reducible refine RD.part ?_
  | with_reducible refine RD.noPart ?_
  | with_reducible refine RD.partI ?_
  | with_reducible refine RD.rd0 ?_
  | with_reducible refine RD.rdU ?_
  | ((with_reducible refine' RD.rdEq ?rdE ?rdK); (case rdE => rfl))
  | ((with_reducible refine' RD.rdNe ?rdE ?rdK); (case rdE => rfl))
  | ((with_reducible refine' RD.ixL ?rdH ?rdE ?rdK); (case rdH => walk_at "sq"); (case rdE => first | rfl | assumption))
  | ((with_reducible refine' RD.rdI ?rdC ?rdK); (case rdC => first | assumption | (show (0 : Int) < _; first | decide | omega) | exact ⟨by decide, by decide⟩ | exact ⟨by assumption, by assumption⟩ | exact .inr ⟨by decide, by decide⟩ | exact .inl ⟨by decide, by decide⟩ | exact ⟨by decide, by decide, by decide⟩ | exact .inl ⟨by omega, by omega⟩))
  | ((with_reducible refine' RD.setL ?rdH ?rdE ?rdK); (case rdH => walk_at "hp"); (case rdE => rfl); intro $(Lean.mkIdent `H'):ident $(Lean.mkIdent `hk):ident $(Lean.mkIdent `hv):ident)
  | ((with_reducible refine' RD.irng1V ?rdA ?rdB ?rdK); (case rdA => first | decide | omega); (case rdB => first | decide | omega))
  | with_reducible refine RD.int1 ?_
  | with_reducible refine RD.abs1 ?_
  | ((with_reducible refine' RD.len ?rdH ?rdK); (case rdH => first | exact Or.inl (by walk_at "sq") | exact Or.inr (by walk_at "st")))
  | with_reducible refine RD.tup ?_
  | with_reducible refine RD.lst ?_
  | with_reducible refine RD.ite1 ?_
  | with_reducible refine RD.ite0 ?_
  | with_reducible refine RD.ite1n ?_
  | with_reducible refine RD.ite0n ?_
  | with_reducible refine RD.seq ?_
  | with_reducible refine RD.asg ?_
  | with_reducible refine RD.name ?_
  | with_reducible refine RD.ret ?_
  | with_reducible refine RD.drop ?_
  | with_reducible refine RD.next ?_
  | with_reducible refine RD.ifs ?_
  | with_reducible refine RD.par ?_
  | with_reducible refine RD.par2 ?_
  | with_reducible refine RD.sub ?_
  | with_reducible refine RD.gcons ?_
  | with_reducible refine RD.gnil ?_
  | with_reducible refine RD.bm ?_
  | ((with_reducible refine' RD.bmL ?rdH ?rdK); (case rdH => walk_at "sq"))
  | ((with_reducible refine' RD.newZ ?rdH ?rdK); (case rdH => exact RD.sz _); intro $(Lean.mkIdent `p'):ident $(Lean.mkIdent `H'):ident $(Lean.mkIdent `hp):ident $(Lean.mkIdent `hs):ident $(Lean.mkIdent `hv):ident; (try have $(Lean.mkIdent `hn):ident := hand_ne $(Lean.mkIdent `hp):ident (by walk_at "hk")))
  | with_reducible refine RD.fors ?_
  | with_reducible refine RD.lc ?_
  | with_reducible refine RD.yes ?_
  | with_reducible refine RD.ilist ?_
  | ((with_reducible refine' RD.ilistV ?rdH ?rdK); (case rdH => walk_at "sq"))
  | with_reducible refine RD.itup ?_
  | ((with_reducible refine' RD.itupV ?rdH ?rdK); (case rdH => walk_at "st"))
  | with_reducible refine RD.irng1 ?_
  | with_reducible refine RD.irng2 ?_
  | ((with_reducible refine' RD.irng2V ?rdA ?rdK); (case rdA => first | decide | omega))
  | with_reducible refine RD.ienum ?_
  | ((with_reducible refine' RD.ienumV ?rdH ?rdK); (case rdH => walk_at "sq"))
  | with_reducible refine RD.izip ?_
  | ((with_reducible refine' RD.izipV ?rdH ?rdE ?rdK); (case rdH => walk_at "sq"); (case rdE => walk_at "sq"))
  | with_reducible refine SPD.izipA ?_
  | with_reducible refine RD.istr ?_
  | with_reducible refine RD.istrV ?_
  | ((with_reducible refine' RD.slL ?rdH ?rdK); (case rdH => walk_at "sq"); intro $(Lean.mkIdent `p'):ident $(Lean.mkIdent `H'):ident $(Lean.mkIdent `hp):ident $(Lean.mkIdent `hs):ident $(Lean.mkIdent `hv):ident; (try have $(Lean.mkIdent `hn):ident := hand_ne $(Lean.mkIdent `hp):ident (by walk_at "hk")))
  | ((with_reducible refine' RD.cat ?rdH ?rdE ?rdZ ?rdK); (case rdH => walk_at "hp"); (case rdE => walk_at "hp"); (case rdZ => exact RD.sz _); intro $(Lean.mkIdent `p'):ident $(Lean.mkIdent `H'):ident $(Lean.mkIdent `hp):ident $(Lean.mkIdent `hs):ident $(Lean.mkIdent `hv):ident; (try have $(Lean.mkIdent `hn):ident := hand_ne $(Lean.mkIdent `hp):ident (by walk_at "hk")))
  | ((with_reducible refine' RD.gtup ?rdH ?rdE ?rdK); (case rdH => walk_at "st"); (case rdE => rfl))
  | ((with_reducible refine' RD.app ?rdH ?rdZ ?rdK); (case rdH => walk_at "hp"); (case rdZ => first | assumption | (apply RD.szl; omega)); intro $(Lean.mkIdent `H'):ident $(Lean.mkIdent `hk):ident $(Lean.mkIdent `hv):ident)
  | ((with_reducible refine' RD.all1 ?rdH ?rdK); (case rdH => walk_at "sq"))
  | ((with_reducible refine' RD.any1 ?rdH ?rdK); (case rdH => walk_at "sq"))
  | ((with_reducible refine' SPD.dnew ?rdK); intro $(Lean.mkIdent `p'):ident $(Lean.mkIdent `H'):ident $(Lean.mkIdent `hp):ident $(Lean.mkIdent `hs):ident $(Lean.mkIdent `hv):ident; (try have $(Lean.mkIdent `hn):ident := hand_ne $(Lean.mkIdent `hp):ident (by walk_at "hk")))
  | ((with_reducible refine' SPD.disp1 ?rdK); intro $(Lean.mkIdent `p'):ident $(Lean.mkIdent `H'):ident $(Lean.mkIdent `hp):ident $(Lean.mkIdent `hs):ident $(Lean.mkIdent `hv):ident; (try have $(Lean.mkIdent `hn):ident := hand_ne $(Lean.mkIdent `hp):ident (by walk_at "hk")))
  | ((with_reducible refine' SPD.isSeq ?rdH ?rdE ?rdK); (case rdH => walk_at "hp"); (case rdE => walk_at "kd"))
  | ((with_reducible refine' SPD.isTup ?rdE ?rdK); (case rdE => walk_at "kd"))
  | ((with_reducible refine' SPD.isLst ?rdE ?rdK); (case rdE => walk_at "kd"))
  | ((with_reducible refine' SPD.isBool ?rdE ?rdK); (case rdE => walk_at "kd"))
  | ((with_reducible refine' SPD.isStr ?rdE ?rdK); (case rdE => walk_at "kd"))
  | ((with_reducible refine' SPD.isInt ?rdE ?rdK); (case rdE => walk_at "kd"))
  | dsimp only)
local macro_rules | `(tactic| walk_at "rds") => `(tactic| repeat walk_at "rd")
local macro_rules | `(tactic| walk_at "sm") => `(tactic| first | assumption | exact Same.refl _ | exact RD.sm_tr (by assumption) (by walk_at "sm") | fail "no")
local macro_rules | `(tactic| walk_at "kb") => `(tactic| first | assumption | exact RD.KB.refl | exact RD.kb_tr (by assumption) (by walk_at "kb") | exact RD.kb_trs (by assumption) (by walk_at "kb") | fail "no")
local macro_rules | `(tactic| walk_at "fr") => `(tactic| first | assumption | exact RD.fr_of (by assumption) (by walk_at "sm") | fail "no")
local macro_rules | `(tactic| walk_at "hk") => `(tactic| first | assumption | exact hand_same (by assumption) (by walk_at "hk") | exact hand_kb (by assumption) (by walk_at "fr") (by walk_at "hk") | fail "no")
local macro_rules | `(tactic| walk_at "na") => `(tactic| first | assumption | exact hand_ne (by assumption) (by walk_at "hk") | fail "no")
local macro_rules | `(tactic| walk_at "dqa") => `(tactic| first | exact SPD.DqA.nil | exact SPD.DqA.cons (by walk_at "dq") (by walk_at "dqa") | exact SPD.DqA.app (by walk_at "dqa") (by walk_at "dqa") | fail "no")
local macro_rules | `(tactic| walk_at "dq") => `(tactic| first | assumption | exact SPD.Dq.leaf rfl | exact SPD.dq_kb (by assumption) (by walk_at "kb") | exact SPD.dqTup (by walk_at "hp") (by walk_at "na") (by walk_at "dqa") | exact SPD.dqLst (by walk_at "hp") (by walk_at "na") (by walk_at "dqa") | exact SPD.dqNil (by walk_at "hp") (by walk_at "na") (by first | decide | simp) (by first | decide | simp) | fail "no")

local macro_rules | `(tactic| walk_at "rd") => `(tactic| first
  | with_reducible refine RB.chain ?_
  | with_reducible refine RB.m1 ?_
  | with_reducible refine RB.strE ?_
  | with_reducible refine RB.fld ?_
  | with_reducible refine RB.setF ?_
  | with_reducible refine RB.ss ?_
  | with_reducible refine RB.rev ?_
  | with_reducible refine RB.make ?_
  | with_reducible refine RB.makeS ?_
  | with_reducible refine RB.mkO ?_
  | with_reducible refine NR.ienumT ?_
  | with_reducible refine RB.inS ?_
  | with_reducible refine RB.bmS ?_
  | with_reducible refine RB.callS ?_
  | with_reducible refine RB.sw3 ?_
  | with_reducible refine RB.par3 ?_
  | with_reducible refine RB.par3V ?_
  | ((with_reducible refine' RB.slS ?rdH ?rdK); (case rdH => walk_at "sz"))
  | with_reducible refine RB.xf ?_
  | ((with_reducible refine' RB.xfV ?rdH ?rdE ?rdK); (case rdH => walk_at "hp"); (case rdE => rfl))
  | ((with_reducible refine' NR.ienumTV ?rdH ?rdK); (case rdH => walk_at "st"))
  | ((with_reducible refine' RB.lenL ?rdH ?rdK); (case rdH => walk_at "sq"))
  | ((with_reducible refine' RB.lenT ?rdH ?rdK); (case rdH => walk_at "st"))
  | ((with_reducible refine' RB.lenS ?rdH ?rdK); (case rdH => walk_at "sz"))
  | ((with_reducible refine' RD.lenS ?rdH ?rdK); (case rdH => walk_at "sz"))
  | ((with_reducible refine' RB.slT ?rdH ?rdK); (case rdH => walk_at "hp"); intro $(Lean.mkIdent `p'):ident $(Lean.mkIdent `H'):ident $(Lean.mkIdent `hs):ident $(Lean.mkIdent `hv):ident $(Lean.mkIdent `hp):ident; (try have $(Lean.mkIdent `hn):ident := two_ne $(Lean.mkIdent `hp):ident (by walk_at "na") (by walk_at "hk")))
  | ((with_reducible refine' RB.revV ?rdH ?rdK); (case rdH => walk_at "st"); intro $(Lean.mkIdent `p'):ident $(Lean.mkIdent `H'):ident $(Lean.mkIdent `hp):ident $(Lean.mkIdent `hs):ident $(Lean.mkIdent `hv):ident; (try have $(Lean.mkIdent `hn):ident := hand_ne $(Lean.mkIdent `hp):ident (by walk_at "hk")))
  | ((with_reducible refine' RB.listS ?rdH ?rdK); (case rdH => walk_at "sz"); intro $(Lean.mkIdent `p'):ident $(Lean.mkIdent `H'):ident $(Lean.mkIdent `hp):ident $(Lean.mkIdent `hs):ident $(Lean.mkIdent `hv):ident; (try have $(Lean.mkIdent `hn):ident := hand_ne $(Lean.mkIdent `hp):ident (by walk_at "hk")))
  | ((with_reducible refine' RB.listO ?rdH ?rdK); (case rdH => first | exact Or.inl (by walk_at "sq") | exact Or.inr (by walk_at "st")); intro $(Lean.mkIdent `p'):ident $(Lean.mkIdent `H'):ident $(Lean.mkIdent `hp):ident $(Lean.mkIdent `hs):ident $(Lean.mkIdent `hv):ident; (try have $(Lean.mkIdent `hn):ident := hand_ne $(Lean.mkIdent `hp):ident (by walk_at "hk")))
  | ((with_reducible refine' RB.tupL ?rdH ?rdK); (case rdH => walk_at "sq"); intro $(Lean.mkIdent `p'):ident $(Lean.mkIdent `H'):ident $(Lean.mkIdent `hp):ident $(Lean.mkIdent `hs):ident $(Lean.mkIdent `hv):ident; (try have $(Lean.mkIdent `hn):ident := hand_ne $(Lean.mkIdent `hp):ident (by walk_at "hk")))
  | ((with_reducible refine' RB.catT ?rdH ?rdE ?rdZ ?rdK); (case rdH => walk_at "hp"); (case rdE => walk_at "hp"); (case rdZ => exact RB.LN.sum (by walk_at "ln") (by walk_at "ln") rfl); intro $(Lean.mkIdent `p'):ident $(Lean.mkIdent `H'):ident $(Lean.mkIdent `hs):ident $(Lean.mkIdent `hv):ident $(Lean.mkIdent `hp):ident; (try have $(Lean.mkIdent `hn):ident := three_ne $(Lean.mkIdent `hp):ident (by walk_at "na") (by walk_at "na") (by walk_at "hk")))
  | fail "no")
local macro_rules | `(tactic| walk_at "ln") => `(tactic| first | with_reducible assumption | exact RB.LN.cut (by walk_at "ln") | exact RB.LN.app (by walk_at "ln") (by walk_at "ln") | exact RB.LN.rev (by walk_at "ln") | exact RB.LN.rep (by walk_at "ln") | exact RB.LN.lit rfl | fail "no")
local macro_rules | `(tactic| walk_at "sz") => `(tactic| first | assumption | exact RD.sz _ | fail "no")

local macro_rules | `(tactic| walk_at "dk") => `(tactic| first | exact FR.rd_of (by walk_at "hp") | exact Or.inr ⟨_, by walk_at "hp"⟩ | fail "no")
local macro_rules | `(tactic| walk_at "rd") => `(tactic| first
  | with_reducible refine FR.dget ?_
  | with_reducible refine FR.din ?_
  | with_reducible refine FR.dnotin ?_
  | with_reducible refine FR.dc ?_
  | with_reducible refine FR.ikeys ?_
  | with_reducible refine FR.ivals ?_
  | with_reducible refine FR.bm0 ?_
  | ((with_reducible refine' FR.dinS ?rdH ?rdK); (case rdH => walk_at "dk"))
  | ((with_reducible refine' FR.keysV ?rdH ?rdK); (case rdH => walk_at "hp"))
  | ((with_reducible refine' FR.valsV ?rdH ?rdK); (case rdH => walk_at "hp"))
  | ((with_reducible refine' FR.bmD ?rdH ?rdK); (case rdH => walk_at "hp"))
  | with_reducible refine FR.ckw ?_
  | with_reducible refine FR.dget2 ?_
  | ((with_reducible refine' FR.isdV ?rdH ?rdK); (case rdH => walk_at "dk"))
  | ((with_reducible refine' FR.dg2S ?rdH ?rdK); (case rdH => walk_at "dk"))
  | ((with_reducible refine' FR.lenD ?rdH ?rdK); (case rdH => walk_at "hp"))
  | fail "no")

/-! ### lists of texts as data -/
theorem eqv_strs : ∀ zs ws : List Str, PyData.eqvAll (zs.map PyData.str) (ws.map PyData.str) = decide (zs = ws)
  | [], [] => by simp [PyData.eqvAll]
  | [], _ :: _ => by simp [PyData.eqvAll]
  | _ :: _, [] => by simp [PyData.eqvAll]
  | z :: zs, w :: ws => by
    have ih := eqv_strs zs ws
    have e : (z == w) = decide (z = w) := by
      by_cases h : z = w
      · subst h
        simp
      · simp [h]
    rw [List.map_cons, List.map_cons, PyData.eqvAll, ih]
    simp [PyData.eqv, e]
theorem eqv_tups (zs ws : List Str) : PyData.eqv (.tuple (zs.map PyData.str)) (.tuple (ws.map PyData.str)) = decide (zs = ws) := by
  rw [PyData.eqv, eqv_strs]
theorem dp_strs {K : PySem.W.Frag} {H : Hp} : ∀ zs : List Str, DpAll K H (zs.map V.str) (zs.map PyData.str)
  | [] => .nil
  | z :: zs => .cons (.str z) (dp_strs zs)
theorem str_ok {z : Str} (h : pieceB z = true) : PyData.strOk z = true := by
  have hl : logB z = true := by
    unfold pieceB at h
    rw [Bool.and_eq_true] at h
    exact h.1
  have small : ∀ c, c ∈ z.cps.toList → c < 128 := fun c hc => by
    have m : c ∈ lets := of_decide_eq_true (List.all_eq_true.mp hl c hc)
    exact (show ∀ c, c ∈ lets → c < 128 by decide) c m
  unfold PyData.strOk
  rw [Array.all_eq_true_iff_forall_mem]
  intro c hc
  have := small c (Array.mem_toList_iff.mpr hc)
  exact decide_eq_true (by omega)
theorem lay_strs : ∀ zs : List Str, (∀ z, z ∈ zs → pieceB z = true) → PyData.canLayAll0 (zs.map PyData.str) = true ∧ PyData.depthAll (zs.map PyData.str) = 0
  | [], _ => ⟨rfl, rfl⟩
  | z :: zs, h => by
    obtain ⟨h1, h2⟩ := lay_strs zs fun y hy => h y (List.mem_cons_of_mem _ hy)
    refine ⟨?_, ?_⟩
    · rw [List.map_cons, PyData.canLayAll0, h1, PyData.canLay0, str_ok (h z List.mem_cons_self)]
      rfl
    · rw [List.map_cons, PyData.depthAll, h2, PyData.depth]
      rfl
theorem shaped_strs {zs : List Str} (h : ∀ z, z ∈ zs → pieceB z = true) : SeqAt.shaped (.tuple (zs.map PyData.str)) = true := by
  obtain ⟨h1, h2⟩ := lay_strs zs h
  unfold SeqAt.shaped
  rw [PyData.canLay0, h1, PyData.depth, h2]
  rfl

def spLetters (C : Addr) : Sp := fun vs H Q _ => ∃ (b t : Addr) (zs : List Str), vs = [.ref b] ∧ BookAt H C b t ∧ H t = some (.tup (zs.map V.str)) ∧ (zs.map (·.length)).sum ≤ 4000 ∧ ∀ ys H', SST.Own (Txt.join ("" : Str) zs) ys → Same H H' → Q (.str (Txt.join ("" : Str) ys)) H'
def spEqB (K : PySem.W.Frag) (C : Addr) : Sp := fun vs H Q _ => ∃ (b t : Addr) (zs : List Str) (y : V), vs = [.ref b, y] ∧ BookAt H C b t ∧ H t = some (.tup (zs.map V.str)) ∧ (∀ z, z ∈ zs → pieceB z = true) ∧
  ((∃ (c u : Addr) (ws : List Str), y = .ref c ∧ BookAt H C c u ∧ H u = some (.tup (ws.map V.str)) ∧ (∀ z, z ∈ ws → pieceB z = true) ∧ Q (.bl (decide (zs = ws))) H) ∨ (∃ k, SPD.KdOf K H y k ∧ Q (.bl false) H))
section
variable {P : Program} {w : World} {K : PySem.W.Frag} {mg : Str → Option Value} {base : Heap}
theorem kd_book (T : Txt P K mg) (k : SPD.Kd) : PySem.W.kitOne K (.type k.ty) (.ref T.C_Book) = some false := by
  have h := T.kc_Book
  rw [List.all_eq_true] at h
  have z := h k.ty (by cases k <;> decide)
  exact eq_of_beq z
theorem ok_Book_eq (T : Txt P K mg) : FnOk P w K mg base CX0 1 T.a_Book_eq T.fd_Book_eq ["self", "other"] (spEqB K T.C_Book) := by
  have nd := sc_Book_eq.nd
  refine T.F_Book_eq.ok sc_Book_eq (fun vs H Q E h => ?_) (fun cdv A outer s H vs Q E hr h => ?_)
  · obtain ⟨b, t, zs, y, rfl, _⟩ := h
    rfl
  · obtain ⟨b, t, zs, y, rfl, ⟨dx, hb⟩, ht, gz, q⟩ := h
    refine ⟨_, (pss_one (ps_ret (pe_and (pe_callB call_isi (by rfl) T.m_isinstance (by decide +kernel) (pa_cons (pv 1) (pa_cons (pe_glob (v := .ref T.C_Book) (by rfl) T.g_Book rfl) pa_nil))) (pe_one (pe_cmpR (op_eqD hr.units) (pe_fld (pv 0) rfl) (pe_fld (pv 1) rfl) (nomark _)))))), ?_⟩
    walk_at "rds"
    rcases q with ⟨c, u, ws, rfl, hbc, hu, gw, q⟩ | ⟨k, hk, q⟩
    · refine RD.isi (.own _) (book_ty T hbc) (t := .ref T.C_Book) (by unfold PySem.W.kitOne; rw [if_pos (by simp)]) ?_
      obtain ⟨dy, hc⟩ := hbc
      walk_at "rds"
      refine RB.fldV hb T.cl_Book T.no_Book_pieces rfl ?_
      walk_at "rds"
      refine RB.fldV hc T.cl_Book T.no_Book_pieces rfl ?_
      refine RD.eqD (.tup (.inl (.inl ht)) (dp_strs zs)) (.tup (.inl (.inl hu)) (dp_strs ws)) (shaped_strs gz) (shaped_strs gw) ?_
      rw [eqv_tups]
      exact q
    · refine RD.isi (.own _) hk.tyx (kd_book T k) ?_
      walk_at "rds"
      exact q
end


end K27

namespace K27
open PySem PySem.Spec PyProof.Rows L2
local macro_rules | `(tactic| walk_at "kd") => `(tactic| first | assumption | exact SPD.KdOf.int _ | exact SPD.KdOf.str _ | exact SPD.KdOf.bl _ | exact SPD.KdOf.non | exact SPD.KdOf.same (by assumption) (by walk_at "kd") | exact SPD.KdOf.tup (by walk_at "hp") | exact SPD.KdOf.lst (by walk_at "hp") | fail "no")
local macro_rules | `(tactic| walk_at "ne") => `(tactic| first | assumption | exact Ne.symm (by assumption) | fail "no")
local macro_rules | `(tactic| walk_at "hp") => `(tactic| first | assumption | exact RD.at_same (by assumption) (by walk_at "hp") | exact RD.at_kb (by assumption) (by walk_at "ne") (by walk_at "hp") | fail "no")
local macro_rules | `(tactic| walk_at "sq") => `(tactic| first | assumption | exact Or.inl (Or.inl (by walk_at "hp")) | exact Same.seq (by assumption) (by walk_at "sq") | exact RD.KB.seq (by assumption) (by walk_at "ne") (by walk_at "sq") | fail "no")
local macro_rules | `(tactic| walk_at "st") => `(tactic| first | assumption | exact Or.inl (Or.inl (by walk_at "hp")) | exact RD.Same.tup (by assumption) (by walk_at "st") | exact RD.KB.tup (by assumption) (by walk_at "ne") (by walk_at "st") | fail "no")
local macro_rules | `(tactic| walk_at "rd") => `(tactic| first
  | with_reducible refine RD.c ?_
  | ((with_reducible refine' RD.var ?rdE ?rdK); (case rdE => exact rfl))
  | with_reducible refine RD.op ?_
  | with_reducible refine RD.un ?_
  | with_reducible refine RD.nil ?_
  | with_reducible refine RD.cons ?_
  | with_reducible refine RD.cb ?_
  | with_reducible refine RD.call ?_
  | with_reducible refine RD.test ?_
  | with_reducible refine RD.tb' ?_
  | with_reducible refine RD.bl ?_
  | with_reducible refine RD.and' ?_
  | with_reducible refine RD.or' ?_
  | with_reducible refine RD.not' ?_
  | with_reducible refine RD.andV ?_
  | with_reducible refine RD.orV ?_
  | with_reducible refine RD.notV ?_
  | with_reducible refine RD.ife ?_
  | with_reducible refine RD.sl ?_
  | with_reducible refine RD.part ?_
  | with_reducible refine RD.noPart ?_
  | with_reducible refine RD.partI ?_
  | with_reducible refine RD.rd0 ?_
  | with_reducible refine RD.rdU ?_
  | ((with_reducible refine' RD.rdEq ?rdE ?rdK); (case rdE => rfl))
  | ((with_reducible refine' RD.rdNe ?rdE ?rdK); (case rdE => rfl))
  | ((with_reducible refine' RD.ixL ?rdH ?rdE ?rdK); (case rdH => walk_at "sq"); (case rdE => first | rfl | assumption))
  | ((with_reducible refine' RD.rdI ?rdC ?rdK); (case rdC => first | assumption | (show (0 : Int) < _; first | decide | omega) | exact ⟨by decide, by decide⟩ | exact ⟨by assumption, by assumption⟩ | exact .inr ⟨by decide, by decide⟩ | exact .inl ⟨by decide, by decide⟩ | exact ⟨by decide, by decide, by decide⟩ | exact .inl ⟨by omega, by omega⟩))
  | ((with_reducible refine' RD.setL ?rdH ?rdE ?rdK); (case rdH => walk_at "hp"); (case rdE => rfl); intro $(Lean.mkIdent `H'):ident $(Lean.mkIdent `hk):ident $(Lean.mkIdent `hv):ident)
  | ((with_reducible refine' RD.irng1V ?rdA ?rdB ?rdK); (case rdA => first | decide | omega); (case rdB => first | decide | omega))
  | with_reducible refine RD.int1 ?_
  | with_reducible refine RD.abs1 ?_
  | ((with_reducible refine' RD.len ?rdH ?rdK); (case rdH => first | exact Or.inl (by walk_at "sq") | exact Or.inr (by walk_at "st")))
  | with_reducible refine RD.tup ?_
  | with_reducible refine RD.lst ?_
  | with_reducible refine RD.ite1 ?_
  | with_reducible refine RD.ite0 ?_
  | with_reducible refine RD.ite1n ?_
  | with_reducible refine RD.ite0n ?_
  | with_reducible refine RD.seq ?_
  | with_reducible refine RD.asg ?_
  | with_reducible refine RD.name ?_
  | with_reducible refine RD.ret ?_
  | with_reducible refine RD.drop ?_
  | with_reducible refine RD.next ?_
  | with_reducible refine RD.ifs ?_
  | with_reducible refine RD.par ?_
  | with_reducible refine RD.par2 ?_
  | with_reducible refine RD.sub ?_
  | with_reducible refine RD.gcons ?_
  | with_reducible refine RD.gnil ?_
  | with_reducible refine RD.bm ?_
  | ((with_reducible refine' RD.bmL ?rdH ?rdK); (case rdH => walk_at "sq"))
  | ((with_reducible refine' RD.newZ ?rdH ?rdK); (case rdH => exact RD.sz _); intro $(Lean.mkIdent `p'):ident $(Lean.mkIdent `H'):ident $(Lean.mkIdent `hp):ident $(Lean.mkIdent `hs):ident $(Lean.mkIdent `hv):ident; (try have $(Lean.mkIdent `hn):ident := hand_ne $(Lean.mkIdent `hp):ident (by walk_at "hk")))
  | with_reducible refine RD.fors ?_
  | with_reducible refine RD.lc ?_
  | with_reducible refine RD.yes ?_
  | with_reducible refine RD.ilist ?_
  | ((with_reducible refine' RD.ilistV ?rdH ?rdK); (case rdH => walk_at "sq"))
  | with_reducible refine RD.itup ?_
  | ((with_reducible refine' RD.itupV ?rdH ?rdK); (case rdH => walk_at "st"))
  | with_reducible refine RD.irng1 ?_
  | with_reducible refine RD.irng2 ?_
  | ((with_reducible refine' RD.irng2V ?rdA ?rdK); (case rdA => first | decide | omega))
  | with_reducible refine RD.ienum ?_
  | ((with_reducible refine' RD.ienumV ?rdH ?rdK); (case rdH => walk_at "sq"))
  | with_reducible refine RD.izip ?_
  | ((with_reducible refine' RD.izipV ?rdH ?rdE ?rdK); (case rdH => walk_at "sq"); (case rdE => walk_at "sq"))
  | with_reducible refine SPD.izipA ?_
  | with_reducible refine RD.istr ?_
  | with_reducible refine RD.istrV ?_
  | ((with_reducible refine' RD.slL ?rdH ?rdK); (case rdH => walk_at "sq"); intro $(Lean.mkIdent `p'):ident $(Lean.mkIdent `H'):ident $(Lean.mkIdent `hp):ident $(Lean.mkIdent `hs):ident $(Lean.mkIdent `hv):ident; (try have $(Lean.mkIdent `hn):ident := hand_ne $(Lean.mkIdent `hp):ident (by walk_at "hk")))
  | ((with_reducible refine' RD.cat ?rdH ?rdE ?rdZ ?rdK); (case rdH => walk_at "hp"); (case rdE => walk_at "hp"); (case rdZ => exact RD.sz _); intro $(Lean.mkIdent `p'):ident $(Lean.mkIdent `H'):ident $(Lean.mkIdent `hp):ident $(Lean.mkIdent `hs):ident $(Lean.mkIdent `hv):ident; (try have $(Lean.mkIdent `hn):ident := hand_ne $(Lean.mkIdent `hp):ident (by walk_at "hk")))
  | ((with_reducible refine' RD.gtup ?rdH ?rdE ?rdK); (case rdH => walk_at "st"); (case rdE => rfl))
  | ((with_reducible refine' RD.app ?rdH ?rdZ ?rdK); (case rdH => walk_at "hp"); (case rdZ => first | assumption | (apply RD.szl; omega)); intro $(Lean.mkIdent `H'):ident $(Lean.mkIdent `hk):ident $(Lean.mkIdent `hv):ident)
  | ((with_reducible refine' RD.all1 ?rdH ?rdK); (case rdH => walk_at "sq"))
  | ((with_reducible refine' RD.any1 ?rdH ?rdK); (case rdH => walk_at "sq"))
  | ((with_reducible refine' SPD.dnew ?rdK); intro $(Lean.mkIdent `p'):ident $(Lean.mkIdent `H'):ident $(Lean.mkIdent `hp):ident $(Lean.mkIdent `hs):ident $(Lean.mkIdent `hv):ident; (try have $(Lean.mkIdent `hn):ident := hand_ne $(Lean.mkIdent `hp):ident (by walk_at "hk")))
  | ((with_reducible refine' SPD.disp1 ?rdK); intro $(Lean.mkIdent `p'):ident $(Lean.mkIdent `H'):ident $(Lean.mkIdent `hp):ident $(Lean.mkIdent `hs):ident $(Lean.mkIdent `hv):ident; (try have $(Lean.mkIdent `hn):ident := hand_ne $(Lean.mkIdent `hp):ident (by walk_at "hk")))
  | ((with_reducible refine' SPD.isSeq ?rdH ?rdE ?rdK); (case rdH => walk_at "hp"); (case rdE => walk_at "kd"))
  | ((with_reducible refine' SPD.isTup ?rdE ?rdK); (case rdE => walk_at "kd"))
  | ((with_reducible refine' SPD.isLst ?rdE ?rdK); (case rdE => walk_at "kd"))
  | ((with_reducible refine' SPD.isBool ?rdE ?rdK); (case rdE => walk_at "kd"))
  | ((with_reducible refine' SPD.isStr ?rdE ?rdK); (case rdE => walk_at "kd"))
  | ((with_reducible refine' SPD.isInt ?rdE ?rdK); (case rdE => walk_at "kd"))
  | dsimp only)
local macro_rules | `(tactic| walk_at "rds") => `(tactic| repeat walk_at "rd")
local macro_rules | `(tactic| walk_at "sm") => `(tactic| first | assumption | exact Same.refl _ | exact RD.sm_tr (by assumption) (by walk_at "sm") | fail "no")
local macro_rules | `(tactic| walk_at "kb") => `(tactic| first | assumption | exact RD.KB.refl | exact RD.kb_tr (by assumption) (by walk_at "kb") | exact RD.kb_trs (by assumption) (by walk_at "kb") | fail "no")
local macro_rules | `(tactic| walk_at "fr") => `(tactic| first | assumption | exact RD.fr_of (by assumption) (by walk_at "sm") | fail "no")
local macro_rules | `(tactic| walk_at "hk") => `(tactic| first | assumption | exact hand_same (by assumption) (by walk_at "hk") | exact hand_kb (by assumption) (by walk_at "fr") (by walk_at "hk") | fail "no")
local macro_rules | `(tactic| walk_at "na") => `(tactic| first | assumption | exact hand_ne (by assumption) (by walk_at "hk") | fail "no")
local macro_rules | `(tactic| walk_at "dqa") => `(tactic| first | exact SPD.DqA.nil | exact SPD.DqA.cons (by walk_at "dq") (by walk_at "dqa") | exact SPD.DqA.app (by walk_at "dqa") (by walk_at "dqa") | fail "no")
local macro_rules | `(tactic| walk_at "dq") => `(tactic| first | assumption | exact SPD.Dq.leaf rfl | exact SPD.dq_kb (by assumption) (by walk_at "kb") | exact SPD.dqTup (by walk_at "hp") (by walk_at "na") (by walk_at "dqa") | exact SPD.dqLst (by walk_at "hp") (by walk_at "na") (by walk_at "dqa") | exact SPD.dqNil (by walk_at "hp") (by walk_at "na") (by first | decide | simp) (by first | decide | simp) | fail "no")

/-! ### plain facts for the law of bases -/
theorem le_anti {x y : Str} (h1 : SKL.leS x y = true) (h2 : SKL.leS y x = true) : x = y := by
  have h1 : RSK.leZ (x.length, x) (y.length, y) = true := h1
  have h2 : RSK.leZ (y.length, y) (x.length, x) = true := h2
  unfold RSK.leZ at h1 h2
  rw [decide_eq_true_iff] at h1 h2
  have h1 : x.length < y.length ∨ (x.length = y.length ∧ x.cps.toList ≤ y.cps.toList) := h1
  have h2 : y.length < x.length ∨ (y.length = x.length ∧ y.cps.toList ≤ x.cps.toList) := h2
  rcases h1 with h1 | ⟨h1, h3⟩ <;> rcases h2 with h2 | ⟨h2, h4⟩
  · omega
  · omega
  · omega
  · exact RSK.str_eq (List.le_antisymm h3 h4)
theorem leS_size {x y : Str} (h : SKL.leS x y = true) : x.cps.size ≤ y.cps.size := by
  have h : RSK.leZ (x.length, x) (y.length, y) = true := h
  unfold RSK.leZ at h
  rw [decide_eq_true_iff] at h
  have h : x.length < y.length ∨ (x.length = y.length ∧ x.cps.toList ≤ y.cps.toList) := h
  have e : x.length = x.cps.size := rfl
  have e2 : y.length = y.cps.size := rfl
  omega
/-- idle by just one of two books -/
def Apart (zs ws : List Str) (y : Str) : Prop := ¬ (IL.Idle (tls zs) (tl y) ↔ IL.Idle (tls ws) (tl y))
theorem self_idle {zs : List Str} {y : Str} (h : y ∈ zs) : IL.Idle (tls zs) (tl y) := BAS.self (tls_mem.mpr ⟨y, h, rfl⟩)
theorem part_mem {zs ws : List Str} {y : Str} : y ∈ partL zs ws ↔ (y ∈ zs ∧ ¬ IL.Idle (tls ws) (tl y)) ∨ (y ∈ ws ∧ ¬ IL.Idle (tls zs) (tl y)) := by
  unfold partL
  rw [List.mem_append, List.mem_filter, List.mem_filter, ← idD_iff, ← idD_iff]
  simp
theorem part_swap {zs ws : List Str} {y : Str} : y ∈ partL ws zs ↔ y ∈ partL zs ws := by
  rw [part_mem, part_mem, or_comm]
theorem part_nil {zs ws : List Str} : partL zs ws = [] ↔ (∀ y, y ∈ zs → IL.Idle (tls ws) (tl y)) ∧ ∀ y, y ∈ ws → IL.Idle (tls zs) (tl y) := by
  rw [List.eq_nil_iff_forall_not_mem]
  constructor
  · intro h
    exact ⟨fun y hy => Classical.byContradiction fun n => h y (part_mem.mpr (.inl ⟨hy, n⟩)), fun y hy => Classical.byContradiction fun n => h y (part_mem.mpr (.inr ⟨hy, n⟩))⟩
  · rintro ⟨h1, h2⟩ y hy
    rcases part_mem.mp hy with ⟨a, b⟩ | ⟨a, b⟩
    · exact b (h1 y a)
    · exact b (h2 y a)
theorem part_swap_nil {zs ws : List Str} : partL ws zs = [] ↔ partL zs ws = [] := by
  rw [part_nil, part_nil, and_comm]
theorem part_none {zs ws : List Str} (h : partL zs ws = []) (w : List Nat) : IL.Idle (tls zs) w ↔ IL.Idle (tls ws) w := by
  obtain ⟨h1, h2⟩ := part_nil.mp h
  refine ⟨fun g => BAS.trans (fun q hq => ?_) g, fun g => BAS.trans (fun q hq => ?_) g⟩
  · obtain ⟨y, hy, rfl⟩ := tls_mem.mp hq
    exact h1 y hy
  · obtain ⟨y, hy, rfl⟩ := tls_mem.mp hq
    exact h2 y hy
theorem part_apart {zs ws : List Str} {y : Str} (h : y ∈ partL zs ws) : Apart zs ws y := fun e => by
  rcases part_mem.mp h with ⟨a, b⟩ | ⟨a, b⟩
  · exact b (e.mp (self_idle a))
  · exact b (e.mpr (self_idle a))
/-- the first one that is apart is a piece -/
theorem first_part {zs ws : List Str} (gz : Good zs) (gw : Good ws) {z : Str} (ha : Apart zs ws z) (hs : ∀ y : Str, y.cps.size < z.cps.size → ¬ Apart zs ws y) : z ∈ partL zs ws := by
  have sh : ∀ v : List Nat, v.length < (tl z).length → (IL.Idle (tls zs) v ↔ IL.Idle (tls ws) v) := fun v hv => by
    have h := hs (sL v) (by rw [← tl_size, tl_sL, ← tl_size]; exact hv)
    unfold Apart at h
    rw [tl_sL] at h
    exact Classical.not_not.mp h
  refine part_mem.mpr ?_
  by_cases h1 : IL.Idle (tls zs) (tl z)
  · have h2 : ¬ IL.Idle (tls ws) (tl z) := fun h2 => ha ⟨fun _ => h2, fun _ => h1⟩
    obtain ⟨y, hy, e⟩ := tls_mem.mp (BAS.first_piece (tls_ne0 gz) h1 h2 fun v hv => (sh v hv).mp)
    rw [← tl_inj e]
    rw [← tl_inj e] at h2
    exact .inl ⟨hy, h2⟩
  · have h2 : IL.Idle (tls ws) (tl z) := Classical.byContradiction fun h2 => ha ⟨fun h => absurd h h1, fun h => absurd h h2⟩
    obtain ⟨y, hy, e⟩ := tls_mem.mp (BAS.first_piece (tls_ne0 gw) h2 h1 fun v hv => (sh v hv).mpr)
    rw [← tl_inj e]
    rw [← tl_inj e] at h1
    exact .inr ⟨hy, h1⟩
/-- a least one -/
def Least (zs ws : List Str) (d : Str) : Prop := d ∈ partL zs ws ∧ ∀ y, y ∈ partL zs ws → SKL.leS d y = true
theorem Least.swap {zs ws : List Str} {d : Str} (h : Least ws zs d) : Least zs ws d := ⟨part_swap.mp h.1, fun y hy => h.2 y (part_swap.mpr hy)⟩
theorem Least.one {zs ws : List Str} {d e : Str} (h : Least zs ws d) (g : Least zs ws e) : d = e := le_anti (h.2 e g.1) (g.2 d h.1)
theorem first_due {zs ws : List Str} (gz : Good zs) (gw : Good ws) {m : Nat} {z d : Str} (hd : Least zs ws d) (hm : z.cps.size ≤ m) (ha : Apart zs ws z) (hl : ∀ y : Str, y.cps.size ≤ m → Apart zs ws y → SKL.leS z y = true) : z = d ∧ d.cps.size ≤ m := by
  have hz : z ∈ partL zs ws := first_part gz gw ha fun y hy h => by
    have := leS_size (hl y (by omega) h)
    omega
  have h1 := hd.2 z hz
  have h2 := leS_size h1
  exact ⟨le_anti (hl d (by omega) (part_apart hd.1)) h1, by omega⟩
theorem no_due {zs ws : List Str} {m : Nat} {d : Str} (hd : Least zs ws d) (hn : ∀ w : Str, w.cps.size ≤ m → (IL.Idle (tls zs) (tl w) ↔ IL.Idle (tls ws) (tl w))) : ¬ d.cps.size ≤ m := fun h => part_apart hd.1 (hn d h)
/-- THE FACT OF BASES, as the law says it -/
theorem sorted_base {zs ws ys us : List Str} (gz : Good zs) (gw : Good ws) (hy : ys.Perm (baseL zs)) (sy : sortedS ys = true) (hu : us.Perm (baseL ws)) (su : sortedS us = true) : ys = us ↔ partL zs ws = [] := by
  have h := BAS.same_base (tls_ne0 gz) (tls_ne0 gw) (is_base gz) (is_base gw)
  have e1 : ((∀ p, p ∈ tls zs → IL.Idle (tls ws) p) ∧ ∀ q, q ∈ tls ws → IL.Idle (tls zs) q) ↔ partL zs ws = [] := by
    rw [part_nil]
    refine ⟨fun ⟨a, b⟩ => ⟨fun y hy => a _ (tls_mem.mpr ⟨y, hy, rfl⟩), fun y hy => b _ (tls_mem.mpr ⟨y, hy, rfl⟩)⟩, fun ⟨a, b⟩ => ⟨fun p hp => ?_, fun p hp => ?_⟩⟩
    · obtain ⟨y, hy, rfl⟩ := tls_mem.mp hp
      exact a y hy
    · obtain ⟨y, hy, rfl⟩ := tls_mem.mp hp
      exact b y hy
  rw [← e1, h]
  constructor
  · intro e w
    have hp : (baseL zs).Perm (baseL ws) := by
      subst e
      exact hy.symm.trans hu
    rw [tls_mem, tls_mem]
    exact ⟨fun ⟨y, a, b⟩ => ⟨y, hp.mem_iff.mp a, b⟩, fun ⟨y, a, b⟩ => ⟨y, hp.mem_iff.mpr a, b⟩⟩
  · intro e
    refine SST.own_one sy su (hy.trans (List.Perm.trans ?_ hu.symm))
    refine (List.perm_ext_iff_of_nodup (good_base gz).once (good_base gw).once).mpr fun y => ?_
    have e := e (tl y)
    rw [tls_mem, tls_mem] at e
    constructor
    · intro a
      obtain ⟨y2, b, c⟩ := e.mp ⟨y, a, rfl⟩
      rw [← tl_inj c]
      exact b
    · intro a
      obtain ⟨y2, b, c⟩ := e.mpr ⟨y, a, rfl⟩
      rw [← tl_inj c]
      exact b
theorem need_base {zs : List Str} (g : Good zs) : needL (baseL zs) = [] := by
  unfold needL
  rw [List.filter_eq_nil_iff]
  intro i hi h
  have hi := List.mem_range.mp hi
  exact BAS.base_need (is_base g) (tls_mem.mpr ⟨_, List.mem_of_getElem? (getD_at hi), rfl⟩) ((need_iff (good_base g) hi).mp h)
theorem part_base {zs : List Str} (g : Good zs) : partL zs (baseL zs) = [] := by
  have h : ∀ w, IL.Idle (tls (baseL zs)) w ↔ IL.Idle (tls zs) w := fun w => BAS.base_idle (tls_ne0 g) (is_base g)
  exact part_nil.mpr ⟨fun y hy => (h _).mpr (self_idle hy), fun y hy => (h _).mp (self_idle hy)⟩
/-! ### how many texts there are -/
def sumP (k : Nat) : Nat → Nat
  | 0 => k ^ 0
  | n + 1 => sumP k n + k ^ (n + 1)
theorem upto_len (own : List Nat) : ∀ n, (IG.upto own n).length = sumP own.length n
  | 0 => IG.row_len own 0
  | n + 1 => by
    show (IG.upto own n ++ IG.row own (n + 1)).length = _
    rw [List.length_append, upto_len own n, IG.row_len]
    rfl
theorem most_row {k : Nat} (h1 : 1 ≤ k) (h8 : k ≤ 8) : ∃ m N : Nat, ([V.int 0, .int 8, .int 7, .int 5, .int 4, .int 4, .int 3, .int 3, .int 3] : List V)[k]? = some (.int (m : Int)) ∧ m ≤ 20 ∧ N ≤ 2000 ∧ sumP k m ≤ N := by
  match k, h1, h8 with
  | 1, _, _ => exact ⟨8, 9, rfl, by decide, by decide, by decide⟩
  | 2, _, _ => exact ⟨7, 255, rfl, by decide, by decide, by decide⟩
  | 3, _, _ => exact ⟨5, 364, rfl, by decide, by decide, by decide⟩
  | 4, _, _ => exact ⟨4, 341, rfl, by decide, by decide, by decide⟩
  | 5, _, _ => exact ⟨4, 781, rfl, by decide, by decide, by decide⟩
  | 6, _, _ => exact ⟨3, 259, rfl, by decide, by decide, by decide⟩
  | 7, _, _ => exact ⟨3, 400, rfl, by decide, by decide, by decide⟩
  | 8, _, _ => exact ⟨3, 585, rfl, by decide, by decide, by decide⟩
  | k + 9, _, h => omega
/-- the own letters of two books -/
theorem own_two {zs ws ys : List Str} (gz : Good zs) (gw : Good ws) (ho : SST.Own (Txt.join ("" : Str) (zs ++ ws)) ys) : ∃ cs : List Nat, (Txt.join ("" : Str) ys).cps.toList = cs ∧ cs.Nodup ∧ 1 ≤ cs.length ∧ cs.length ≤ 8 ∧ ∀ y, y ∈ zs ++ ws → ∀ c, c ∈ tl y → c ∈ cs := by
  obtain ⟨cs, rfl, n, hc⟩ := own_signs ho
  have hall : ∀ y, y ∈ zs ++ ws → ∀ c, c ∈ tl y → c ∈ cs := fun y hy c hcy => (hc c).mpr (by
    rw [join_cps]
    exact List.mem_flatten.mpr ⟨_, List.mem_map.mpr ⟨y, hy, rfl⟩, hcy⟩)
  refine ⟨cs, cs_join cs, n, ?_, ?_, hall⟩
  · have hy := getD_at (zs := zs) (i := 0) gz.some
    have hm := List.mem_of_getElem? hy
    have h1 := (piece_size (gz.piece _ hm)).1
    obtain ⟨c, hcy⟩ := List.exists_mem_of_length_pos (show 0 < (tl (zs.getD 0 "")).length by rw [tl_size]; omega)
    exact List.length_pos_iff.mpr (List.ne_nil_of_mem (hall _ (List.mem_append_left _ hm) c hcy))
  · refine Nat.le_trans (FL.sub_len n (m := lets) fun c hcs => ?_) (by decide +kernel)
    have := (hc c).mp hcs
    rw [join_cps] at this
    obtain ⟨l, hl, hcl⟩ := List.mem_flatten.mp this
    obtain ⟨y, hy, rfl⟩ := List.mem_map.mp hl
    rcases List.mem_append.mp hy with h | h
    · exact piece_lets (gz.piece y h) c hcl
    · exact piece_lets (gw.piece y h) c hcl
theorem lot_few {zs : List Str} {cs : List Nat} {m N : Nat} (hc : ∀ y, y ∈ zs → ∀ c, c ∈ tl y → c ∈ cs) (hN : sumP cs.length m ≤ N) (F : List Str) (n : F.Nodup) (hF : ∀ w, w ∈ F → IL.Idle (tls zs) (tl w) ∧ w.cps.size ≤ m) : F.length ≤ N := by
  have n2 : (F.map tl).Nodup := List.pairwise_map.mpr (n.imp fun {a b} h e => h (tl_inj e))
  have h := FL.sub_len n2 (m := IG.upto cs m) fun w hw => by
    obtain ⟨y, hy, rfl⟩ := List.mem_map.mp hw
    obtain ⟨h1, h2⟩ := hF y hy
    refine IG.upto_mem.mpr ⟨by rw [tl_size]; exact h2, fun a ha => ?_⟩
    obtain ⟨p, hp, hap⟩ := IG.idle_own h1 a ha
    obtain ⟨q, hq, rfl⟩ := tls_mem.mp hp
    exact hc q hq a hap
  rw [List.length_map, upto_len] at h
  omega
/-! ### data -/
theorem dp_natL {K : PySem.W.Frag} {H : Hp} : ∀ ns : List Nat, DpAll K H (ns.map fun n : Nat => V.int (n : Int)) (ns.map fun n : Nat => .int (n : Int))
  | [] => .nil
  | _ :: ns => .cons (.int _) (dp_natL ns)
theorem dp_nT {K : PySem.W.Frag} {H : Hp} {p : Addr} {ns : List Nat} (h : H p = some (.tup (ns.map fun n : Nat => V.int (n : Int)))) : Dp K H (.ref p) (.tuple (ns.map fun n : Nat => .int (n : Int))) := .tup (.inl (.inl h)) (dp_natL ns)
theorem lay_nats : ∀ ns : List Nat, PyData.canLayAll0 (ns.map fun n : Nat => PyData.int (n : Int)) = true ∧ PyData.depthAll (ns.map fun n : Nat => PyData.int (n : Int)) = 0
  | [] => ⟨rfl, rfl⟩
  | n :: ns => by
    obtain ⟨h1, h2⟩ := lay_nats ns
    refine ⟨?_, ?_⟩
    · rw [List.map_cons, PyData.canLayAll0, h1]
      rfl
    · rw [List.map_cons, PyData.depthAll, h2]
      rfl
theorem shaped_nT (ns : List Nat) : SeqAt.shaped (.tuple (ns.map fun n : Nat => .int (n : Int))) = true := by
  obtain ⟨h1, h2⟩ := lay_nats ns
  unfold SeqAt.shaped
  rw [PyData.canLay0, h1, PyData.depth, h2]
  rfl
theorem eqv_nats : ∀ ns : List Nat, PyData.eqvAll (ns.map fun n : Nat => PyData.int (n : Int)) (ns.map fun n : Nat => .int (n : Int)) = true
  | [] => by simp [PyData.eqvAll]
  | n :: ns => by
    have := eqv_nats ns
    simp [PyData.eqvAll, PyData.eqv, this]
theorem eqv_nT (ns : List Nat) : PyData.eqv (.tuple (ns.map fun n : Nat => .int (n : Int))) (.tuple (ns.map fun n : Nat => .int (n : Int))) = true := by
  rw [PyData.eqv]
  exact eqv_nats ns
theorem shaped_L {zs : List Str} (h : ∀ z, z ∈ zs → pieceB z = true) : SeqAt.shaped (.list (zs.map PyData.str)) = true := by
  obtain ⟨h1, h2⟩ := lay_strs zs h
  unfold SeqAt.shaped
  rw [PyData.canLay0, h1, PyData.depth, h2]
  rfl
theorem eqv_L (zs ws : List Str) : PyData.eqv (.list (zs.map PyData.str)) (.list (ws.map PyData.str)) = decide (zs = ws) := by
  rw [PyData.eqv, eqv_strs]


end K27

namespace K27
open PySem PySem.Spec PyProof.Rows L2
local macro_rules | `(tactic| walk_at "kd") => `(tactic| first | assumption | exact SPD.KdOf.int _ | exact SPD.KdOf.str _ | exact SPD.KdOf.bl _ | exact SPD.KdOf.non | exact SPD.KdOf.same (by assumption) (by walk_at "kd") | exact SPD.KdOf.tup (by walk_at "hp") | exact SPD.KdOf.lst (by walk_at "hp") | fail "no")
local macro_rules | `(tactic| walk_at "ne") => `(tactic| first | assumption | exact Ne.symm (by assumption) | fail "no")
local macro_rules | `(tactic| walk_at "hp") => `(tactic| first | assumption | exact RD.at_same (by assumption) (by walk_at "hp") | exact RD.at_kb (by assumption) (by walk_at "ne") (by walk_at "hp") | fail "no")
local macro_rules | `(tactic| walk_at "sq") => `(tactic| first | assumption | exact Or.inl (Or.inl (by walk_at "hp")) | exact Same.seq (by assumption) (by walk_at "sq") | exact RD.KB.seq (by assumption) (by walk_at "ne") (by walk_at "sq") | fail "no")
local macro_rules | `(tactic| walk_at "st") => `(tactic| first | assumption | exact Or.inl (Or.inl (by walk_at "hp")) | exact RD.Same.tup (by assumption) (by walk_at "st") | exact RD.KB.tup (by assumption) (by walk_at "ne") (by walk_at "st") | fail "no")
local macro_rules | `(tactic| walk_at "rd") => `(tactic| first
  | with_reducible refine RD.c ?_
  | ((with_reducible refine' RD.var ?rdE ?rdK); (case rdE => exact rfl))
  | with_reducible refine RD.op ?_
  | with_reducible refine RD.un ?_
  | with_reducible refine RD.nil ?_
  | with_reducible refine RD.cons ?_
  | with_reducible refine RD.cb ?_
  | with_reducible refine RD.call ?_
  | with_reducible refine RD.test ?_
  | with_reducible refine RD.tb' ?_
  | with_reducible refine RD.bl ?_
  | with_reducible refine RD.and' ?_
  | with_reducible refine RD.or' ?_
  | with_reducible refine RD.not' ?_
  | with_reducible refine RD.andV ?_
  | with_reducible refine RD.orV ?_
  | with_reducible refine RD.notV ?_
  | with_reducible refine RD.ife ?_
  | with_reducible refine RD.sl ?_
  | with_reducible refine RD.part ?_
  | with_reducible refine RD.noPart ?_
  | with_reducible refine RD.partI ?_
  | with_reducible refine RD.rd0 ?_
  | with_reducible refine RD.rdU ?_
  | ((with_reducible refine' RD.rdEq ?rdE ?rdK); (case rdE => rfl))
  | ((with_reducible refine' RD.rdNe ?rdE ?rdK); (case rdE => rfl))
  | ((with_reducible refine' RD.ixL ?rdH ?rdE ?rdK); (case rdH => walk_at "sq"); (case rdE => first | rfl | assumption))
  | ((with_reducible refine' RD.rdI ?rdC ?rdK); (case rdC => first | assumption | (show (0 : Int) < _; first | decide | omega) | exact ⟨by decide, by decide⟩ | exact ⟨by assumption, by assumption⟩ | exact .inr ⟨by decide, by decide⟩ | exact .inl ⟨by decide, by decide⟩ | exact ⟨by decide, by decide, by decide⟩ | exact .inl ⟨by omega, by omega⟩))
  | ((with_reducible refine' RD.setL ?rdH ?rdE ?rdK); (case rdH => walk_at "hp"); (case rdE => rfl); intro $(Lean.mkIdent `H'):ident $(Lean.mkIdent `hk):ident $(Lean.mkIdent `hv):ident)
  | ((with_reducible refine' RD.irng1V ?rdA ?rdB ?rdK); (case rdA => first | decide | omega); (case rdB => first | decide | omega))
  | with_reducible refine RD.int1 ?_
  | with_reducible refine RD.abs1 ?_
  | ((with_reducible refine' RD.len ?rdH ?rdK); (case rdH => first | exact Or.inl (by walk_at "sq") | exact Or.inr (by walk_at "st")))
  | with_reducible refine RD.tup ?_
  | with_reducible refine RD.lst ?_
  | with_reducible refine RD.ite1 ?_
  | with_reducible refine RD.ite0 ?_
  | with_reducible refine RD.ite1n ?_
  | with_reducible refine RD.ite0n ?_
  | with_reducible refine RD.seq ?_
  | with_reducible refine RD.asg ?_
  | with_reducible refine RD.name ?_
  | with_reducible refine RD.ret ?_
  | with_reducible refine RD.drop ?_
  | with_reducible refine RD.next ?_
  | with_reducible refine RD.ifs ?_
  | with_reducible refine RD.par ?_
  | with_reducible refine RD.par2 ?_
  | with_reducible refine RD.sub ?_
  | with_reducible refine RD.gcons ?_
  | with_reducible refine RD.gnil ?_
  | with_reducible refine RD.bm ?_
  | ((with_reducible refine' RD.bmL ?rdH ?rdK); (case rdH => walk_at "sq"))
  | ((with_reducible refine' RD.newZ ?rdH ?rdK); (case rdH => exact RD.sz _); intro $(Lean.mkIdent `p'):ident $(Lean.mkIdent `H'):ident $(Lean.mkIdent `hp):ident $(Lean.mkIdent `hs):ident $(Lean.mkIdent `hv):ident; (try have $(Lean.mkIdent `hn):ident := hand_ne $(Lean.mkIdent `hp):ident (by walk_at "hk")))
  | with_reducible refine RD.fors ?_
  | with_reducible refine RD.lc ?_
  | with_reducible refine RD.yes ?_
  | with_reducible refine RD.ilist ?_
  | ((with_reducible refine' RD.ilistV ?rdH ?rdK); (case rdH => walk_at "sq"))
  | with_reducible refine RD.itup ?_
  | ((with_reducible refine' RD.itupV ?rdH ?rdK); (case rdH => walk_at "st"))
  | with_reducible refine RD.irng1 ?_
  | with_reducible refine RD.irng2 ?_
  | ((with_reducible refine' RD.irng2V ?rdA ?rdK); (case rdA => first | decide | omega))
  | with_reducible refine RD.ienum ?_
  | ((with_reducible refine' RD.ienumV ?rdH ?rdK); (case rdH => walk_at "sq"))
  | with_reducible refine RD.izip ?_
  | ((with_reducible refine' RD.izipV ?rdH ?rdE ?rdK); (case rdH => walk_at "sq"); (case rdE => walk_at "sq"))
  | with_reducible refine SPD.izipA ?_
  | with_reducible refine RD.istr ?_
  | with_reducible refine RD.istrV ?_
  | ((with_reducible refine' RD.slL ?rdH ?rdK); (case rdH => walk_at "sq"); intro $(Lean.mkIdent `p'):ident $(Lean.mkIdent `H'):ident $(Lean.mkIdent `hp):ident $(Lean.mkIdent `hs):ident $(Lean.mkIdent `hv):ident; (try have $(Lean.mkIdent `hn):ident := hand_ne $(Lean.mkIdent `hp):ident (by walk_at "hk")))
  | ((with_reducible refine' RD.cat ?rdH ?rdE ?rdZ ?rdK); (case rdH => walk_at "hp"); (case rdE => walk_at "hp"); (case rdZ => exact RD.sz _); intro $(Lean.mkIdent `p'):ident $(Lean.mkIdent `H'):ident $(Lean.mkIdent `hp):ident $(Lean.mkIdent `hs):ident $(Lean.mkIdent `hv):ident; (try have $(Lean.mkIdent `hn):ident := hand_ne $(Lean.mkIdent `hp):ident (by walk_at "hk")))
  | ((with_reducible refine' RD.gtup ?rdH ?rdE ?rdK); (case rdH => walk_at "st"); (case rdE => rfl))
  | ((with_reducible refine' RD.app ?rdH ?rdZ ?rdK); (case rdH => walk_at "hp"); (case rdZ => first | assumption | (apply RD.szl; omega)); intro $(Lean.mkIdent `H'):ident $(Lean.mkIdent `hk):ident $(Lean.mkIdent `hv):ident)
  | ((with_reducible refine' RD.all1 ?rdH ?rdK); (case rdH => walk_at "sq"))
  | ((with_reducible refine' RD.any1 ?rdH ?rdK); (case rdH => walk_at "sq"))
  | ((with_reducible refine' SPD.dnew ?rdK); intro $(Lean.mkIdent `p'):ident $(Lean.mkIdent `H'):ident $(Lean.mkIdent `hp):ident $(Lean.mkIdent `hs):ident $(Lean.mkIdent `hv):ident; (try have $(Lean.mkIdent `hn):ident := hand_ne $(Lean.mkIdent `hp):ident (by walk_at "hk")))
  | ((with_reducible refine' SPD.disp1 ?rdK); intro $(Lean.mkIdent `p'):ident $(Lean.mkIdent `H'):ident $(Lean.mkIdent `hp):ident $(Lean.mkIdent `hs):ident $(Lean.mkIdent `hv):ident; (try have $(Lean.mkIdent `hn):ident := hand_ne $(Lean.mkIdent `hp):ident (by walk_at "hk")))
  | ((with_reducible refine' SPD.isSeq ?rdH ?rdE ?rdK); (case rdH => walk_at "hp"); (case rdE => walk_at "kd"))
  | ((with_reducible refine' SPD.isTup ?rdE ?rdK); (case rdE => walk_at "kd"))
  | ((with_reducible refine' SPD.isLst ?rdE ?rdK); (case rdE => walk_at "kd"))
  | ((with_reducible refine' SPD.isBool ?rdE ?rdK); (case rdE => walk_at "kd"))
  | ((with_reducible refine' SPD.isStr ?rdE ?rdK); (case rdE => walk_at "kd"))
  | ((with_reducible refine' SPD.isInt ?rdE ?rdK); (case rdE => walk_at "kd"))
  | dsimp only)
local macro_rules | `(tactic| walk_at "rds") => `(tactic| repeat walk_at "rd")
local macro_rules | `(tactic| walk_at "sm") => `(tactic| first | assumption | exact Same.refl _ | exact RD.sm_tr (by assumption) (by walk_at "sm") | fail "no")
local macro_rules | `(tactic| walk_at "kb") => `(tactic| first | assumption | exact RD.KB.refl | exact RD.kb_tr (by assumption) (by walk_at "kb") | exact RD.kb_trs (by assumption) (by walk_at "kb") | fail "no")
local macro_rules | `(tactic| walk_at "fr") => `(tactic| first | assumption | exact RD.fr_of (by assumption) (by walk_at "sm") | fail "no")
local macro_rules | `(tactic| walk_at "hk") => `(tactic| first | assumption | exact hand_same (by assumption) (by walk_at "hk") | exact hand_kb (by assumption) (by walk_at "fr") (by walk_at "hk") | fail "no")
local macro_rules | `(tactic| walk_at "na") => `(tactic| first | assumption | exact hand_ne (by assumption) (by walk_at "hk") | fail "no")
local macro_rules | `(tactic| walk_at "dqa") => `(tactic| first | exact SPD.DqA.nil | exact SPD.DqA.cons (by walk_at "dq") (by walk_at "dqa") | exact SPD.DqA.app (by walk_at "dqa") (by walk_at "dqa") | fail "no")
local macro_rules | `(tactic| walk_at "dq") => `(tactic| first | assumption | exact SPD.Dq.leaf rfl | exact SPD.dq_kb (by assumption) (by walk_at "kb") | exact SPD.dqTup (by walk_at "hp") (by walk_at "na") (by walk_at "dqa") | exact SPD.dqLst (by walk_at "hp") (by walk_at "na") (by walk_at "dqa") | exact SPD.dqNil (by walk_at "hp") (by walk_at "na") (by first | decide | simp) (by first | decide | simp) | fail "no")

local macro_rules | `(tactic| walk_at "rd") => `(tactic| first
  | with_reducible refine RB.chain ?_
  | with_reducible refine RB.m1 ?_
  | with_reducible refine RB.strE ?_
  | with_reducible refine RB.fld ?_
  | with_reducible refine RB.setF ?_
  | with_reducible refine RB.ss ?_
  | with_reducible refine RB.rev ?_
  | with_reducible refine RB.make ?_
  | with_reducible refine RB.makeS ?_
  | with_reducible refine RB.mkO ?_
  | with_reducible refine NR.ienumT ?_
  | with_reducible refine RB.inS ?_
  | with_reducible refine RB.bmS ?_
  | with_reducible refine RB.callS ?_
  | with_reducible refine RB.sw3 ?_
  | with_reducible refine RB.par3 ?_
  | with_reducible refine RB.par3V ?_
  | ((with_reducible refine' RB.slS ?rdH ?rdK); (case rdH => walk_at "sz"))
  | with_reducible refine RB.xf ?_
  | ((with_reducible refine' RB.xfV ?rdH ?rdE ?rdK); (case rdH => walk_at "hp"); (case rdE => rfl))
  | ((with_reducible refine' NR.ienumTV ?rdH ?rdK); (case rdH => walk_at "st"))
  | ((with_reducible refine' RB.lenL ?rdH ?rdK); (case rdH => walk_at "sq"))
  | ((with_reducible refine' RB.lenT ?rdH ?rdK); (case rdH => walk_at "st"))
  | ((with_reducible refine' RB.lenS ?rdH ?rdK); (case rdH => walk_at "sz"))
  | ((with_reducible refine' RD.lenS ?rdH ?rdK); (case rdH => walk_at "sz"))
  | ((with_reducible refine' RB.slT ?rdH ?rdK); (case rdH => walk_at "hp"); intro $(Lean.mkIdent `p'):ident $(Lean.mkIdent `H'):ident $(Lean.mkIdent `hs):ident $(Lean.mkIdent `hv):ident $(Lean.mkIdent `hp):ident; (try have $(Lean.mkIdent `hn):ident := two_ne $(Lean.mkIdent `hp):ident (by walk_at "na") (by walk_at "hk")))
  | ((with_reducible refine' RB.revV ?rdH ?rdK); (case rdH => walk_at "st"); intro $(Lean.mkIdent `p'):ident $(Lean.mkIdent `H'):ident $(Lean.mkIdent `hp):ident $(Lean.mkIdent `hs):ident $(Lean.mkIdent `hv):ident; (try have $(Lean.mkIdent `hn):ident := hand_ne $(Lean.mkIdent `hp):ident (by walk_at "hk")))
  | ((with_reducible refine' RB.listS ?rdH ?rdK); (case rdH => walk_at "sz"); intro $(Lean.mkIdent `p'):ident $(Lean.mkIdent `H'):ident $(Lean.mkIdent `hp):ident $(Lean.mkIdent `hs):ident $(Lean.mkIdent `hv):ident; (try have $(Lean.mkIdent `hn):ident := hand_ne $(Lean.mkIdent `hp):ident (by walk_at "hk")))
  | ((with_reducible refine' RB.listO ?rdH ?rdK); (case rdH => first | exact Or.inl (by walk_at "sq") | exact Or.inr (by walk_at "st")); intro $(Lean.mkIdent `p'):ident $(Lean.mkIdent `H'):ident $(Lean.mkIdent `hp):ident $(Lean.mkIdent `hs):ident $(Lean.mkIdent `hv):ident; (try have $(Lean.mkIdent `hn):ident := hand_ne $(Lean.mkIdent `hp):ident (by walk_at "hk")))
  | ((with_reducible refine' RB.tupL ?rdH ?rdK); (case rdH => walk_at "sq"); intro $(Lean.mkIdent `p'):ident $(Lean.mkIdent `H'):ident $(Lean.mkIdent `hp):ident $(Lean.mkIdent `hs):ident $(Lean.mkIdent `hv):ident; (try have $(Lean.mkIdent `hn):ident := hand_ne $(Lean.mkIdent `hp):ident (by walk_at "hk")))
  | ((with_reducible refine' RB.catT ?rdH ?rdE ?rdZ ?rdK); (case rdH => walk_at "hp"); (case rdE => walk_at "hp"); (case rdZ => exact RB.LN.sum (by walk_at "ln") (by walk_at "ln") rfl); intro $(Lean.mkIdent `p'):ident $(Lean.mkIdent `H'):ident $(Lean.mkIdent `hs):ident $(Lean.mkIdent `hv):ident $(Lean.mkIdent `hp):ident; (try have $(Lean.mkIdent `hn):ident := three_ne $(Lean.mkIdent `hp):ident (by walk_at "na") (by walk_at "na") (by walk_at "hk")))
  | fail "no")
local macro_rules | `(tactic| walk_at "ln") => `(tactic| first | with_reducible assumption | exact RB.LN.cut (by walk_at "ln") | exact RB.LN.app (by walk_at "ln") (by walk_at "ln") | exact RB.LN.rev (by walk_at "ln") | exact RB.LN.rep (by walk_at "ln") | exact RB.LN.lit rfl | fail "no")
local macro_rules | `(tactic| walk_at "sz") => `(tactic| first | assumption | exact RD.sz _ | fail "no")

local macro_rules | `(tactic| walk_at "hp") => `(tactic| first | assumption | exact RD.at_same (by assumption) (by walk_at "hp") | exact SPE.at_kx (by assumption) (by walk_at "na") (by walk_at "hp") | exact RD.at_kb (by assumption) (by walk_at "ne") (by walk_at "hp") | fail "no")
local macro_rules | `(tactic| walk_at "sq") => `(tactic| first | assumption | exact Or.inl (Or.inl (by walk_at "hp")) | exact Same.seq (by assumption) (by walk_at "sq") | exact SPE.KX.seq (by assumption) (by walk_at "na") (by walk_at "sq") | exact RD.KB.seq (by assumption) (by walk_at "ne") (by walk_at "sq") | fail "no")
local macro_rules | `(tactic| walk_at "st") => `(tactic| first | assumption | exact Or.inl (Or.inl (by walk_at "hp")) | exact RD.Same.tup (by assumption) (by walk_at "st") | exact SPE.KX.tup (by assumption) (by walk_at "na") (by walk_at "st") | exact RD.KB.tup (by assumption) (by walk_at "ne") (by walk_at "st") | fail "no")
local macro_rules | `(tactic| walk_at "kx") => `(tactic| first | assumption | exact SPE.KX.refl | exact SPE.kx_tr (by assumption) (by walk_at "kx") | exact SPE.kx_trs (by assumption) (by walk_at "kx") | fail "no")
local macro_rules | `(tactic| walk_at "dqa") => `(tactic| first | exact SPE.DqA.nil | exact SPE.DqA.cons (by walk_at "dq") (by walk_at "dqa") | exact SPE.DqA.app (by walk_at "dqa") (by walk_at "dqa") | fail "no")
local macro_rules | `(tactic| walk_at "dq") => `(tactic| first | assumption | exact SPE.Dq.leaf rfl | exact SPE.dq_kx (by assumption) (by walk_at "kx") | exact SPE.dqTup (by walk_at "hp") (by walk_at "na") (by walk_at "dqa") | exact SPE.dqLst (by walk_at "hp") (by walk_at "na") (by walk_at "dqa") | exact SPE.dqNil (by walk_at "hp") (by walk_at "na") (by first | decide | simp) (by first | decide | simp) | fail "no")
local macro_rules | `(tactic| walk_at "dqx") => `(tactic| first | exact $(Lean.mkIdent `hdb):ident _ (by walk_at "kx") | exact SPE.DqA.cons (SPE.dq_kx (by assumption) (by walk_at "kx")) SPE.DqA.nil | exact SPE.DqA.cons (SPE.Dq.leaf rfl) SPE.DqA.nil | exact SPE.DqA.nil | (with_reducible refine SPE.dqa_cut ?_; walk_at "dqx") | (with_reducible refine SPE.dqa_rev ?_; walk_at "dqx") | (with_reducible refine SPE.DqA.app ?_ ?_ <;> walk_at "dqx") | fail "no")
local macro_rules | `(tactic| walk_at "dqz") => `(tactic| first | exact SPE.dqTupN (by walk_at "hp") (by walk_at "na") (by walk_at "dqx") (by walk_at "ln") rfl | exact SPE.dqLstN (by walk_at "hp") (by walk_at "na") (by walk_at "dqx") (by walk_at "ln") rfl | fail "no")
local macro_rules | `(tactic| walk_at "rd") => `(tactic| first
  | with_reducible refine SPE.revs ?_
  | ((with_reducible refine' SPE.revsV ?rdH ?rdK); (case rdH => walk_at "sz"))
  | ((with_reducible refine' SPE.sum1 ?rdH ?rdK); (case rdH => walk_at "sq"))
  | fail "no")

local macro_rules | `(tactic| walk_at "rd") => `(tactic| first
  | ((with_reducible refine' RB.listO ?rdH ?rdK); (case rdH => exact Or.inr (by walk_at "st")); intro $(Lean.mkIdent `p'):ident $(Lean.mkIdent `H'):ident $(Lean.mkIdent `hp):ident $(Lean.mkIdent `hs):ident $(Lean.mkIdent `hv):ident; (try have $(Lean.mkIdent `hn):ident := hand_ne $(Lean.mkIdent `hp):ident (by walk_at "hk")))
  | fail "no")

local macro_rules | `(tactic| walk_at "dk") => `(tactic| first | exact FR.rd_of (by walk_at "hp") | exact Or.inr ⟨_, by walk_at "hp"⟩ | fail "no")
local macro_rules | `(tactic| walk_at "rd") => `(tactic| first
  | with_reducible refine FR.dget ?_
  | with_reducible refine FR.din ?_
  | with_reducible refine FR.dnotin ?_
  | with_reducible refine FR.dc ?_
  | with_reducible refine FR.ikeys ?_
  | with_reducible refine FR.ivals ?_
  | with_reducible refine FR.bm0 ?_
  | ((with_reducible refine' FR.dinS ?rdH ?rdK); (case rdH => walk_at "dk"))
  | ((with_reducible refine' FR.keysV ?rdH ?rdK); (case rdH => walk_at "hp"))
  | ((with_reducible refine' FR.valsV ?rdH ?rdK); (case rdH => walk_at "hp"))
  | ((with_reducible refine' FR.bmD ?rdH ?rdK); (case rdH => walk_at "hp"))
  | with_reducible refine FR.ckw ?_
  | with_reducible refine FR.dget2 ?_
  | ((with_reducible refine' FR.isdV ?rdH ?rdK); (case rdH => walk_at "dk"))
  | ((with_reducible refine' FR.dg2S ?rdH ?rdK); (case rdH => walk_at "dk"))
  | ((with_reducible refine' FR.lenD ?rdH ?rdK); (case rdH => walk_at "hp"))
  | fail "no")

/-! ### the law of bases -/
theorem own_nf (K : PySem.W.Frag) (C : Addr) : PySem.W.notFirst K C (.ref C) = true := by
  unfold PySem.W.notFirst
  simp
theorem inV_nats {i : Nat} : ∀ L : List Nat, inV (.int (i : Int)) (L.map fun n : Nat => V.int (n : Int)) = decide (i ∈ L)
  | [] => rfl
  | a :: r => by
    have ih := inV_nats (i := i) r
    show (eqV (.int (a : Int)) (.int (i : Int)) || inV (.int (i : Int)) (r.map fun n : Nat => V.int (n : Int))) = _
    rw [ih]
    show ((a : Int) == (i : Int) || decide (i ∈ r)) = _
    by_cases h : i = a
    · subst h
      simp
    · have h1 : ((a : Int) == (i : Int)) = false := by
        rw [beq_eq_false_iff_ne]
        omega
      rw [h1]
      simp [h]
theorem flat_nats : ∀ L : List Nat, (L.map fun n : Nat => V.int (n : Int)).all flatV = true
  | [] => rfl
  | _ :: r => flat_nats r
theorem in_needL {zs : List Str} {i : Nat} (hi : i < zs.length) : decide (i ∈ needL zs) = needD zs i := by
  have e : i ∈ needL zs ↔ needD zs i = true := by
    unfold needL
    exact ⟨fun e => (List.mem_filter.mp e).2, fun h => List.mem_filter.mpr ⟨List.mem_range.mpr hi, h⟩⟩
  by_cases h : needD zs i = true
  · rw [decide_eq_true (e.mpr h), h]
  · rw [decide_eq_false fun z => h (e.mp z), Bool.eq_false_iff.mpr h]
theorem tabs_kx {TT : List (Addr × Str)} {H H' : Hp} {x : SPE.AX} (hh : BagOk H x) (k : SPE.KX x H H') (t : LamX.Tabs TT H) : LamX.Tabs TT H' := fun p hp => by
  obtain ⟨ps, h1, h2, h3⟩ := t p hp
  obtain ⟨cells, sd, n, al, ha, hc, ne, hl⟩ := hh
  have off : ∀ b o, (∀ xs, o ≠ .lst xs) → H b = some o → SPE.Off b x := fun b o n e => ⟨fun z => by
    rw [z, ha] at e
    exact n _ (Option.some.inj e).symm, fun z => by
    rw [z, hc] at e
    exact n _ (Option.some.inj e).symm⟩
  refine ⟨ps, k _ _ (off _ _ (fun xs z => by cases z) h1) h1, h2, fun pos cv hc => ?_⟩
  obtain ⟨c, e1, e2⟩ := h3 pos cv hc
  exact ⟨c, e1, k _ _ (off _ _ (fun xs z => by unfold LamX.CodeO at z; cases z) e2) e2⟩
theorem bag_ext {H H' : Hp} {x : SPE.AX} (h : BagOk H x) (e : LamX.ExtN H H') : BagOk H' x := by
  obtain ⟨cells, sd, n, al, ha, hc, ne, hl⟩ := h
  exact ⟨cells, sd, n, al, lst_ext ha e, lst_ext hc e, ne, hl⟩
structure LB (TT : List (Addr × Str)) (C : Addr) (zs ws : List Str) (x : SPE.AX) (t u b c : Addr) (H : Hp) : Prop where
  bag : BagOk H x
  ht : H t = some (.tup (zs.map V.str))
  hu : H u = some (.tup (ws.map V.str))
  hb : BookAt H C b t
  hc : BookAt H C c u
  hT : LamX.Tabs TT H
variable {TT : List (Addr × Str)} {C : Addr} {zs ws : List Str} {x : SPE.AX} {t u b c : Addr} {H H' : Hp} in
theorem LB.ext (S : LB TT C zs ws x t u b c H) (e : LamX.ExtN H H') (hT : LamX.Tabs TT H') : LB TT C zs ws x t u b c H' := ⟨bag_ext S.bag e, tup_ext S.ht e, tup_ext S.hu e, bookAt_ext S.hb e, bookAt_ext S.hc e, hT⟩
variable {TT : List (Addr × Str)} {C : Addr} {zs ws : List Str} {x : SPE.AX} {t u b c : Addr} {H H' : Hp} in
theorem LB.same (S : LB TT C zs ws x t u b c H) (s : Same H H') : LB TT C zs ws x t u b c H' := S.ext (LamX.ExtN.of s) (HXT.Tabs.same s S.hT)
def spLawT (K : PySem.W.Frag) (TT : List (Addr × Str)) : Sp := fun vs H Q _ => ∃ (a : Addr) (ns : List Int), vs = [.ref a] ∧ SqL K H a (ns.map V.int) ∧ ns.length ≤ 63 ∧ LamX.Tabs TT H ∧ ∀ H', Q (.bl true) H'
/-- what is due: the first of the parting pieces, or None -/
def Due (zs ws : List Str) (v : V) : Prop := (partL zs ws = [] ∧ v = .non) ∨ ∃ d, v = .str d ∧ Least zs ws d
theorem Due.one {zs ws : List Str} {v v' : V} (h : Due zs ws v) (g : Due zs ws v') : v = v' := by
  rcases h with ⟨e, rfl⟩ | ⟨d, rfl, hd⟩ <;> rcases g with ⟨f, rfl⟩ | ⟨d', rfl, hd'⟩
  · rfl
  · have := hd'.1
    rw [e] at this
    exact absurd this List.not_mem_nil
  · have := hd.1
    rw [f] at this
    exact absurd this List.not_mem_nil
  · rw [hd.one hd']
theorem Due.swap {zs ws : List Str} {v : V} (h : Due ws zs v) : Due zs ws v := by
  rcases h with ⟨e, rfl⟩ | ⟨d, rfl, hd⟩
  · exact .inl ⟨part_swap_nil.mp e, rfl⟩
  · exact .inr ⟨d, rfl, hd.swap⟩
theorem Due.base {zs : List Str} {v : V} (h : Due zs (baseL zs) v) (g : Good zs) : v = .non := by
  rcases h with ⟨e, rfl⟩ | ⟨d, rfl, hd⟩
  · rfl
  · have := hd.1
    rw [part_base g] at this
    exact absurd this List.not_mem_nil
theorem Due.scal {zs ws : List Str} {v : V} (h : Due zs ws v) : scal v v = true := by
  rcases h with ⟨e, rfl⟩ | ⟨d, rfl, hd⟩ <;> rfl
/-- the first log apart, as the law says it of what is due -/
def FirstV (m : Nat) (dv fv : V) : Prop := (dv = .non ∧ fv = .non) ∨ ∃ d, dv = .str d ∧ ((d.cps.size ≤ m ∧ fv = .str d) ∨ (¬ d.cps.size ≤ m ∧ fv = .non))
theorem part_mk {TT : List (Addr × Str)} {C b c t u : Addr} {zs ws : List Str} {H : Hp} {Q : VK} {E : XK} (h1 : BookAt H C b t) (h2 : H t = some (.tup (zs.map V.str))) (h3 : Good zs) (h4 : BookAt H C c u) (h5 : H u = some (.tup (ws.map V.str))) (h6 : Good ws) (h7 : LamX.Tabs TT H)
    (q : ∀ v H', Due zs ws v → LamX.ExtN H H' → LamX.Tabs TT H' → Q v H') : spPartingP C TT ([.ref b, .ref c] ++ []) H Q E :=
  ⟨_, _, _, _, _, _, rfl, h1, h2, h3, h4, h5, h6, h7, fun e H' eN hT => q _ H' (.inl ⟨e, rfl⟩) eN hT, fun z H' hz hle eN hT => q _ H' (.inr ⟨z, rfl, hz, hle⟩) eN hT⟩
section
variable {P : Program} {w : World} {K : PySem.W.Frag} {mg : Str → Option Value} {base : Heap}
theorem ok_law (T : Txt P K mg) (TB : ∀ p ∈ T.cs, LamX.TabB base mg p.1 p.2) : FnOk P w K mg base CX0 31 T.a_law T.fd_law ["_law_script"] (spLawT K T.tabs) := by
  have nd := sc_law.nd
  have G_bag : FnOk P w K mg base CX0 30 T.a_bag T.fd_bag ["_law_script"] (spBag K) := (ok_bag T).mono (by decide)
  have G_pick : FnOk P w K mg base CX0 30 T.a_pick T.fd_pick ["_law_bag_here", "_law_many"] spPick := (ok_pick T).mono (by decide)
  have G_full : FnOk P w K mg base CX0 30 T.a_full T.fd_full ["_law_bag_here"] spDrawn := (ok_full T).mono (by decide)
  have G_scant : FnOk P w K mg base CX0 30 T.a_scant T.fd_scant ["_law_bag_here"] spDrawn := (ok_scant T).mono (by decide)
  have G_beside : FnOk P w K mg base CX0 30 T.a_beside T.fd_beside ["_law_bag_here", "_law_pieces"] spBeside := (ok_beside T).mono (by decide)
  have G_other : FnOk P w K mg base CX0 30 T.a_other T.fd_other ["_law_bag_here", "_law_pieces"] spBeside := (ok_other T).mono (by decide)
  have G_Book_init : FnOk P w K mg base (L2.CX P w) 29 T.a_Book_init T.fd_Book_init ["self", "pieces"] (spBook K T.C_Book T.C_BadBook) := (ok_Book_init T).mono (by decide)
  have G_Book_eq : FnOk P w K mg base CX0 29 T.a_Book_eq T.fd_Book_eq ["self", "other"] (spEqB K T.C_Book) := (ok_Book_eq T).mono (by decide)
  have G_needless : FnOk P w K mg base CX0 30 T.a_needless T.fd_needless ["_law_pieces"] spNeedlessL := (ok_needless T).mono (by decide)
  have G_q_needless : FnOk P w K mg base CX0 30 T.a_q_needless T.fd_q_needless ["book"] (spNeedlessP T.C_Book) := (ok_q_needless T).mono (by decide)
  have G_base : FnOk P w K mg base CX0 30 T.a_base T.fd_base ["book"] (spBaseP T.C_Book) := (ok_base T).mono (by decide)
  have G_parting : FnOk P w K mg base CX0 30 T.a_parting T.fd_parting ["_law_pieces", "_law_others"] spPartingL := (ok_parting T).mono (by decide)
  have G_q_parting : FnOk P w K mg base CX0 30 T.a_q_parting T.fd_q_parting ["book", "other"] (spPartingP T.C_Book T.tabs) := (ok_q_parting T TB).mono (by decide)
  have G_is_idle : FnOk P w K mg base CX0 30 T.a_is_idle T.fd_is_idle ["_law_pieces", "_law_log"] spIdleL := (ok_is_idle T).mono (by decide)
  have G_is_held : FnOk P w K mg base CX0 30 T.a_is_held T.fd_is_held ["book", "other"] (spIsHeld T.C_Book) := (ok_is_held T).mono (by decide)
  have G_flag : FnOk P w K mg base CX0 30 T.a_flag T.fd_flag ["_law_told", "_law_due"] spFlag := (ok_flag T).mono (by decide)
  have G_own : FnOk P w K mg base CX0 30 T.a_own T.fd_own ["_law_pieces"] spOwn := (ok_own T).mono (by decide)
  have G_first_apart : FnOk P w K mg base CX0 30 T.a_first_apart T.fd_first_apart ["_law_pieces", "_law_others", "_law_most"] spApartZ := (ok_first_apart T).mono (by decide)
  refine T.F_law.ok sc_law (fun vs H Q E h => ?_) (fun cdv A outer s H vs Q E hr h => ?_)
  · obtain ⟨a, ns, rfl, _⟩ := h
    rfl
  · obtain ⟨s0, ns, rfl, hS, hl, hT0, q⟩ := h
    refine ⟨_, (pss_cons (ps_set (i := 1) nd rfl (by first | exact Or.inl rfl | exact Or.inr rfl) (pe_call G_bag hr (by rfl) T.g_bag T.F_bag.kp T.b_bag .nil pass0 (pa_cons (pv 0) pa_nil)))
  (pss_cons (ps_for PassesOwn.never rfl (pi_range1 (by rfl) T.m_range (pa_cons pe_int pa_nil)) (pg_name (i := 2) nd rfl (by first | exact Or.inl rfl | exact Or.inr rfl))
    (Evl.pss_cut (ps_set (i := 3) nd rfl (by first | exact Or.inl rfl | exact Or.inr rfl) (pe_call G_beside hr (by rfl) T.g_beside T.F_beside.kp T.b_beside .nil pass0 (pa_cons (pv 1) (pa_cons (pe_ifExp (pt_cmpR op_eq (pe_call G_pick hr (by rfl) T.g_pick T.F_pick.kp T.b_pick .nil pass0 (pa_cons (pv 1) (pa_cons pe_int pa_nil))) pe_int (nomark _)) (pe_call G_full hr (by rfl) T.g_full T.F_full.kp T.b_full .nil pass0 (pa_cons (pv 1) pa_nil)) (pe_call G_scant hr (by rfl) T.g_scant T.F_scant.kp T.b_scant .nil pass0 (pa_cons (pv 1) pa_nil))) pa_nil))))
  (pss_cons (ps_set (i := 4) nd rfl (by first | exact Or.inl rfl | exact Or.inr rfl) (pe_call G_other hr (by rfl) T.g_other T.F_other.kp T.b_other .nil pass0 (pa_cons (pv 1) (pa_cons (pv 3) pa_nil))))
  (pss_cons (ps_par (i := 5) (j := 6) rfl nd rfl rfl (by decide) rfl rfl (pa_cons (pe_make T.M_Book G_Book_init hr (by rfl) T.g_Book T.b_Book_init .nil NR.passN (pa_cons (pv 3) pa_nil)) (pa_cons (pe_make T.M_Book G_Book_init hr (by rfl) T.g_Book T.b_Book_init .nil NR.passN (pa_cons (pv 4) pa_nil)) pa_nil)) (by rfl))
  (pss_cons (ps_set (i := 7) nd rfl (by first | exact Or.inl rfl | exact Or.inr rfl) (pe_call G_needless hr (by rfl) T.g_needless T.F_needless.kp T.b_needless .nil pass0 (pa_cons (pv 3) pa_nil)))
  (Evl.pss_cut (ps_set (i := 8) nd rfl (by first | exact Or.inl rfl | exact Or.inr rfl) (pe_callTy RB.call_tupO (by rfl) T.m_tuple (by decide +kernel) (pa_cons (pe_lc (own := [("_law_number", 13), ("_law_piece", 14)]) (g := (gTup K 2 (gCons (gName 13) (gCons (gName 14) gNil)))) rfl nd (NR.pi_enumT (by rfl) T.m_enumerate (pa_cons (pv 3) pa_nil)) (blkOk_by (own := [("_law_number", 13), ("_law_piece", 14)]) (N := N_law) (sc := defScope s_law) (by decide +kernel)) (fun _ _ _ _ _ => (pg_tup rfl (pgs_cons (pg_name (i := 13) nd rfl (Or.inl rfl)) (pgs_cons (pg_name (i := 14) nd rfl (Or.inl rfl)) pgs_nil)))) (fun _ _ _ _ _ => (pts_one (pt_cmpR (r := rIn K true) op_notIn_seq (pv 13) (pv 7) (by first | rfl | exact nomark _)))) (fun _ _ _ _ _ => (pv 14))) pa_nil)))
  (Evl.pss_cut (ps_if (PW.pt (pw_or (pt_cmpR (op_neD hr.units) (pe_call G_q_needless hr (by rfl) T.g_q_needless T.F_q_needless.kp T.b_q_needless .nil pass0 (pa_cons (pv 5) pa_nil)) (pv 7) (nomark _)) (pw_or (pt_cmpR (NR.op_ownNe T.eqc_Book G_Book_eq hr T.b_Book_eq pass0) (pe_call G_base hr (by rfl) T.g_base T.F_base.kp T.b_base .nil pass0 (pa_cons (pv 5) pa_nil)) (pe_make T.M_Book G_Book_init hr (by rfl) T.g_Book T.b_Book_init .nil NR.passN (pa_cons (pv 8) pa_nil)) (nomark _)) (pw_or1 (pt_cmpR (op_neD hr.units) (pe_call G_q_needless hr (by rfl) T.g_q_needless T.F_q_needless.kp T.b_q_needless .nil pass0 (pa_cons (pe_call G_base hr (by rfl) T.g_base T.F_base.kp T.b_base .nil pass0 (pa_cons (pv 5) pa_nil)) pa_nil)) (pe_tup pa_nil) (nomark _))))))
    (pss_one (ps_ret pe_bl))
    pss_nil)
  (Evl.pss_cut (ps_set (i := 9) nd rfl (by first | exact Or.inl rfl | exact Or.inr rfl) (pe_call G_parting hr (by rfl) T.g_parting T.F_parting.kp T.b_parting .nil pass0 (pa_cons (pv 3) (pa_cons (pv 4) pa_nil))))
  (Evl.pss_cut (ps_if (PW.pt (pw_or (pt_cmpR op_ne (pe_call G_q_parting hr (by rfl) T.g_q_parting T.F_q_parting.kp T.b_q_parting .nil pass0 (pa_cons (pv 5) (pa_cons (pv 6) pa_nil))) (pv 9) (nomark _)) (pw_or (pt_cmpR op_ne (pe_call G_q_parting hr (by rfl) T.g_q_parting T.F_q_parting.kp T.b_q_parting .nil pass0 (pa_cons (pv 6) (pa_cons (pv 5) pa_nil))) (pv 9) (nomark _)) (pw_or1 (pt_cmpR op_notN (pe_call G_q_parting hr (by rfl) T.g_q_parting T.F_q_parting.kp T.b_q_parting .nil pass0 (pa_cons (pv 5) (pa_cons (pe_call G_base hr (by rfl) T.g_base T.F_base.kp T.b_base .nil pass0 (pa_cons (pv 5) pa_nil)) pa_nil))) pe_non (nomark _))))))
    (pss_one (ps_ret pe_bl))
    pss_nil)
  (Evl.pss_cut (ps_set (i := 10) nd rfl (by first | exact Or.inl rfl | exact Or.inr rfl) (pe_lst (pa_cons (pe_callB (cr_all rfl) (by rfl) T.m_all (by decide +kernel) (pa_cons (pe_lc (own := [("_law_piece", 14)]) (g := (gName 14)) rfl nd (pi_tup (pv 3)) (blkOk_by (own := [("_law_piece", 14)]) (N := N_law) (sc := defScope s_law) (by decide +kernel)) (fun _ _ _ _ _ => (pg_name (i := 14) nd rfl (Or.inl rfl))) (fun _ _ _ _ _ => pts_nil) (fun _ _ _ _ _ => (pe_call G_is_idle hr (by rfl) T.g_is_idle T.F_is_idle.kp T.b_is_idle .nil pass0 (pa_cons (pv 4) (pa_cons (pv 14) pa_nil))))) pa_nil)) pa_nil)))
  (Evl.pss_cut (ps_expr (pe_bm PySem.F.plainAttrs_list PySem.F.slot_list_append PySem.F.type_list_append mt_append (pv 10) (pa_cons (pe_callB (cr_all rfl) (by rfl) T.m_all (by decide +kernel) (pa_cons (pe_lc (own := [("_law_piece", 14)]) (g := (gName 14)) rfl nd (pi_tup (pv 4)) (blkOk_by (own := [("_law_piece", 14)]) (N := N_law) (sc := defScope s_law) (by decide +kernel)) (fun _ _ _ _ _ => (pg_name (i := 14) nd rfl (Or.inl rfl))) (fun _ _ _ _ _ => pts_nil) (fun _ _ _ _ _ => (pe_call G_is_idle hr (by rfl) T.g_is_idle T.F_is_idle.kp T.b_is_idle .nil pass0 (pa_cons (pv 3) (pa_cons (pv 14) pa_nil))))) pa_nil)) pa_nil)))
  (Evl.pss_cut (ps_if (PW.pt (pw_or (pt_not (pt_val (pe_call G_flag hr (by rfl) T.g_flag T.F_flag.kp T.b_flag .nil pass0 (pa_cons (pe_call G_is_held hr (by rfl) T.g_is_held T.F_is_held.kp T.b_is_held .nil pass0 (pa_cons (pv 5) (pa_cons (pv 6) pa_nil))) (pa_cons (pe_ix ix_list (pv 10) pe_int (fun _ _ => rfl)) pa_nil))))) (pw_or1 (pt_not (pt_val (pe_call G_flag hr (by rfl) T.g_flag T.F_flag.kp T.b_flag .nil pass0 (pa_cons (pe_call G_is_held hr (by rfl) T.g_is_held T.F_is_held.kp T.b_is_held .nil pass0 (pa_cons (pv 6) (pa_cons (pv 5) pa_nil))) (pa_cons (pe_ix ix_list (pv 10) pe_int (fun _ _ => rfl)) pa_nil))))))))
    (pss_one (ps_ret pe_bl))
    pss_nil)
  (Evl.pss_cut (ps_if (pt_cmpR op_ne (pe_cmpR op_isN (pv 9) pe_non (nomark _)) (pe_cmpR (op_eqD hr.units) (pe_callB SOT.cr_sortTS (by rfl) T.m_sorted (by decide +kernel) (pa_cons (pe_fld (pe_call G_base hr (by rfl) T.g_base T.F_base.kp T.b_base .nil pass0 (pa_cons (pv 5) pa_nil)) rfl) pa_nil)) (pe_callB SOT.cr_sortTS (by rfl) T.m_sorted (by decide +kernel) (pa_cons (pe_fld (pe_call G_base hr (by rfl) T.g_base T.F_base.kp T.b_base .nil pass0 (pa_cons (pv 6) pa_nil)) rfl) pa_nil)) (nomark _)) (nomark _))
    (pss_one (ps_ret pe_bl))
    pss_nil)
  (Evl.pss_cut (ps_set (i := 11) nd rfl (by first | exact Or.inl rfl | exact Or.inr rfl) (pe_ix ix_list (pe_lst (pa_cons pe_int (pa_cons pe_int (pa_cons pe_int (pa_cons pe_int (pa_cons pe_int (pa_cons pe_int (pa_cons pe_int (pa_cons pe_int (pa_cons pe_int pa_nil)))))))))) (pe_callB call_len_str (by rfl) T.m_len PySem.boot_len (pa_cons (pe_call G_own hr (by rfl) T.g_own T.F_own.kp T.b_own .nil pass0 (pa_cons (pe_op op_catA (pv 3) (pv 4)) pa_nil)) pa_nil)) (fun _ _ => rfl)))
  (Evl.pss_cut (ps_set (i := 12) nd rfl (by first | exact Or.inl rfl | exact Or.inr rfl) (pe_call G_first_apart hr (by rfl) T.g_first_apart T.F_first_apart.kp T.b_first_apart .nil pass0 (pa_cons (pv 3) (pa_cons (pv 4) (pa_cons (pv 11) pa_nil)))))
  (pss_one (ps_if (pt_cmpR op_ne (pv 12) (pe_ifExp (PW.pt (pw_and (pt_cmpR op_notN (pv 9) pe_non (nomark _)) (pw_and1 (pt_cmpR op_le (pe_callB call_len_str (by rfl) T.m_len PySem.boot_len (pa_cons (pv 9) pa_nil)) (pv 11) (nomark _))))) (pv 9) pe_non) (nomark _))
    (pss_one (ps_ret pe_bl))
    pss_nil)))))))))))))))))
  (pss_one (ps_ret pe_bl)))), ?_⟩
    walk_at "rds"
    refine ⟨s0, ns, rfl, hS, hl, fun x H1 s1 ha hh1 => ?_⟩
    have hT1 := HXT.Tabs.same s1 hT0
    clear s1 hS hT0 ha hl
    walk_at "rds"
    refine RD.forW (walk_range (lo := 0) (n := Int.toNat 3)) (fun i σ H' => ∃ x2 x3 x4 x5 x6 x7 x8 x9 x10 x11 x12 x13 x14, σ = [some (.ref s0), some (.ref x.1), x2, x3, x4, x5, x6, x7, x8, x9, x10, x11, x12, x13, x14] ∧ BagOk H' x ∧ LamX.Tabs T.tabs H') ⟨_, _, _, _, _, _, _, _, _, _, _, _, _, rfl, hh1, hT1⟩ (fun _ _ _ _ _ => trivial) (fun i v σ H2 H3 hi hp hy => ?_) (fun σ H2 hp => ?_)
    · obtain ⟨x2, x3, x4, x5, x6, x7, x8, x9, x10, x11, x12, x13, x14, rfl, hh2, hT2⟩ := hp
      obtain ⟨rfl, rfl⟩ := hy
      clear hh1 hT1
      walk_at "rds"
      refine ⟨fun σ' H' => ∃ (t : Addr) (zs : List Str), σ' = [some (.ref s0), some (.ref x.1), some (.int (0 + (i : Int))), some (.ref t), x4, x5, x6, x7, x8, x9, x10, x11, x12, x13, x14] ∧ BagOk H' x ∧ LamX.Tabs T.tabs H' ∧ H' t = some (.tup (zs.map V.str)) ∧ Good zs, ?_, fun σ1 H4 hm => ?_⟩
      · walk_at "rds"
        refine spPick.mk (E := E0) hh2 (by decide) (by decide) fun r H4 _ _ k4 hh4 => ?_
        have hT4 := tabs_kx hh2 k4 hT2
        walk_at "rds"
        refine RD.ite_d (fun _ => ?_) (fun _ => ?_)
        · walk_at "rds"
          refine ⟨x, rfl, hh4, fun u ws H5 k5 hh5 hu gw => ?_⟩
          have hT5 := tabs_kx hh4 k5 hT4
          walk_at "rds"
          refine spBeside.mk hh5 hu gw fun t zs H6 k6 hh6 ht gz => ?_
          have hT6 := tabs_kx hh5 k6 hT5
          walk_at "rds"
          exact ⟨t, zs, rfl, hh6, hT6, ht, gz⟩
        · walk_at "rds"
          refine ⟨x, rfl, hh4, fun u ws H5 k5 hh5 hu gw => ?_⟩
          have hT5 := tabs_kx hh4 k5 hT4
          walk_at "rds"
          refine spBeside.mk hh5 hu gw fun t zs H6 k6 hh6 ht gz => ?_
          have hT6 := tabs_kx hh5 k6 hT5
          walk_at "rds"
          exact ⟨t, zs, rfl, hh6, hT6, ht, gz⟩
      obtain ⟨t, zs, rfl, hh4, hT4, ht4, gz⟩ := hm
      clear hh2 hT2
      walk_at "rds"
      refine spBeside.mk hh4 ht4 gz fun u ws H5 k5 hh5 hu5 gw => ?_
      have hT5 := tabs_kx hh4 k5 hT4
      have ht5 := k5 _ _ (hh4.tupOff ht4) ht4
      clear k5 hh4 hT4 ht4
      walk_at "rds"
      refine RB.made fun b H6 dx hb s6 hb6 => ?_
      refine ⟨x.1, b, dx, 1, .ref t, rfl, hb6, dq_pieces gz (s6 _ _ ht5) (hh5.tupOff ht5).1, fun H7 _ k7 h7 => ⟨rfl, ?_⟩, fun r d H' hr ne _ _ _ => absurd (hr.one (DueR.of (s6 _ _ ht5) gz)) ne⟩
      have s7 := same_of_kb s6 hb k7
      have ht7 := s7 _ _ ht5
      have hu7 := s7 _ _ hu5
      have hh7 := hh5.same s7
      have hT7 := HXT.Tabs.same s7 hT5
      have hbk7 : BookAt H7 T.C_Book b t := ⟨dx, h7⟩
      clear s6 hb6 k7 s7 ht5 hu5 hh5 hT5 h7 hb
      walk_at "rds"
      refine RB.made fun c H8 dy hc s8 hc8 => ?_
      refine ⟨x.1, c, dy, 1, .ref u, rfl, hc8, dq_pieces gw (s8 _ _ hu7) (hh7.tupOff hu7).1, fun H9 _ k9 h9 => ⟨rfl, ?_⟩, fun r d H' hr ne _ _ _ => absurd (hr.one (DueR.of (s8 _ _ hu7) gw)) ne⟩
      have s9 := same_of_kb s8 hc k9
      have S9 : LB T.tabs T.C_Book zs ws x t u b c H9 := ⟨hh7.same s9, s9 _ _ ht7, s9 _ _ hu7, hbk7.same s9, ⟨dy, h9⟩, HXT.Tabs.same s9 hT7⟩
      clear s8 hc8 k9 s9 ht7 hu7 hh7 hT7 h9 hc hbk7
      walk_at "rds"
      refine ⟨t, zs, rfl, S9.ht, gz, fun l H10 hln s10 hl10 => ?_⟩
      have S10 := S9.same s10
      clear S9 s10 hln
      have hlm : (zs.map V.str).length = zs.length := List.length_map ..
      have hlw : (ws.map V.str).length = ws.length := List.length_map ..
      have gz12 := gz.few
      have gw12 := gw.few
      walk_at "rds"
      refine ⟨fun σ' H' => ∃ (k : Addr), σ' = [some (.ref s0), some (.ref x.1), some (.int (0 + (i : Int))), some (.ref t), some (.ref u), some (.ref b), some (.ref c), some (.ref l), some (.ref k), x9, x10, x11, x12, x13, x14] ∧ LB T.tabs T.C_Book zs ws x t u b c H' ∧ H' l = some (.tup ((needL zs).map fun i : Nat => V.int (i : Int))) ∧ H' k = some (.tup ((baseL zs).map V.str)), ?_, fun σ1 H11 hm => ?_⟩
      · have ht10 := S10.ht
        walk_at "rds"
        refine RD.lcW (NR.w_enumT (xs := zs.map V.str)) (by omega) fun D H11 hD s11 hv11 => ⟨fun j acc H' => Same H10 H' ∧ acc = ((List.range j).filterMap fun i => if needD zs i then none else zs[i]?).map V.str, ⟨s11, rfl⟩, fun j acc H' _ p => .inl (.inl (p.1 _ _ ht10)), fun j v acc H12 H13 Z N hj hp hDa hy hZ hN => ?_, fun acc H12 hp hDa => ?_⟩
        · obtain ⟨s12, rfl⟩ := hp
          obtain ⟨T1, x1, y1, rfl, hTn, s13, hv13, hx1, hy1⟩ := hy
          obtain rfl : V.int (j : Nat) = x1 := Option.some.inj hx1
          rw [hlm] at hj
          obtain rfl : y1 = .str (zs.getD j "") := by
            have hy1 : (zs.map V.str)[j]? = some y1 := hy1
            rw [List.getElem?_map, getD_at hj] at hy1
            exact (Option.some.inj hy1).symm
          have s1013 := s12.trans s13
          have hD13 := s13 _ _ hDa
          have hl13 := s1013 _ _ hl10
          walk_at "rds"
          refine ⟨rfl, ?_⟩
          walk_at "rds"
          refine RB.ninT (.inr (.inl (.inl hl13))) rfl (flat_nats _) ?_
          rw [inV_nats, in_needL hj]
          walk_at "rds"
          have etk : ∀ o : Option Str, (if needD zs j then none else zs[j]?) = o → ((List.range (j + 1)).filterMap fun i => if needD zs i then none else zs[i]?).map V.str = ((List.range j).filterMap fun i => if needD zs i then none else zs[i]?).map V.str ++ (o.toList.map V.str) := fun o e => by
            rw [List.range_succ, List.filterMap_append, List.map_append, List.filterMap_cons, e]
            cases o <;> rfl
          refine RD.ite_b (fun e => ?_) (fun e => ?_)
          · have e : needD zs j = false := by simpa using e
            walk_at "rds"
            refine hZ _ _ hD13 fun H14 k14 h14 => ⟨RD.same_mut k14 s1013 hD, ?_⟩
            rw [etk (some (zs.getD j "")) (by rw [e]; exact getD_at hj)]
            rfl
          · have e : needD zs j = true := by simpa using e
            refine hN _ hD13 ⟨s1013, ?_⟩
            rw [etk none (by rw [e]; rfl)]
            simp
        · obtain ⟨s12, rfl⟩ := hp
          rw [hlm] at hDa
          walk_at "rds"
          exact ⟨_, rfl, S10.same (s12.trans hs), (s12.trans hs) _ _ hl10, by rw [hv]; rfl⟩
      obtain ⟨k, rfl, S11, hl11, hk11⟩ := hm
      clear S10 hl10
      have gb := good_base gz
      walk_at "rds"
      refine ⟨fun σ' H' => σ' = [some (.ref s0), some (.ref x.1), some (.int (0 + (i : Int))), some (.ref t), some (.ref u), some (.ref b), some (.ref c), some (.ref l), some (.ref k), x9, x10, x11, x12, x13, x14] ∧ LB T.tabs T.C_Book zs ws x t u b c H', ?_, fun σ1 H12 hm => ?_⟩
      · walk_at "rds"
        refine ⟨b, t, zs, rfl, S11.hb, S11.ht, gz, fun p H12 hp s12 hp12 => ?_⟩
        have S12 := S11.same s12
        walk_at "rds"
        refine RD.neD (dp_nT hp12) (dp_nT (s12 _ _ hl11)) (shaped_nT _) (shaped_nT _) ?_
        rw [eqv_nT]
        have hk12 := s12 _ _ hk11
        clear S11 s12 hp12 hl11 hk11
        walk_at "rds"
        refine ⟨b, t, zs, rfl, S12.hb, S12.ht, gz, fun b1 t1 H13 hb1 ht1 s13 hbk1 hv1 => ?_⟩
        have S13 := S12.same s13
        have hk13 := s13 _ _ hk12
        clear S12 s13 hk12
        walk_at "rds"
        refine RB.made fun b2 H14 dz hb2 s14 hb14 => ?_
        refine ⟨x.1, b2, dz, 1, .ref k, rfl, hb14, dq_pieces gb (s14 _ _ hk13) (S13.bag.tupOff hk13).1, fun H15 _ k15 h15 => ⟨rfl, ?_⟩, fun r d H' hr ne _ _ _ => absurd (hr.one (DueR.of (s14 _ _ hk13) gb)) ne⟩
        have s15 := same_of_kb s14 hb2 k15
        have S15 := S13.same s15
        have hbk1 := hbk1.same s15
        have hv1 := s15 _ _ hv1
        have hk15 := s15 _ _ hk13
        have hbk2 : BookAt H15 T.C_Book b2 k := ⟨dz, h15⟩
        clear S13 s15 s14 hb14 k15 hk13 h15
        walk_at "rds"
        obtain ⟨dx3, h3⟩ := id hbk1
        refine ⟨b1, dx3, _, .ref T.C_Book, rfl, h3, book_ty T hbk2, own_nf _ _, b1, t1, baseL zs, .ref b2, rfl, hbk1, hv1, gb.piece, .inl ⟨b2, k, baseL zs, rfl, hbk2, hk15, gb.piece, _, rfl, false, by rw [if_pos rfl, decide_eq_true rfl]; rfl, ?_⟩⟩
        rw [if_neg (by decide)]
        clear hbk1 hv1 hk15 hbk2 h3
        walk_at "rds"
        refine ⟨b, t, zs, rfl, S15.hb, S15.ht, gz, fun b1 t1 H16 hb1 ht1 s16 hbk1 hv1 => ?_⟩
        have S16 := S15.same s16
        clear S15 s16
        walk_at "rds"
        refine ⟨b1, t1, baseL zs, rfl, hbk1, hv1, gb, fun p2 H17 hp2 s17 hq2 => ?_⟩
        have S17 := S16.same s17
        rw [need_base gz] at hq2
        clear S16 s17 hbk1 hv1
        walk_at "rds"
        refine RD.neD (dp_nT (ns := []) (hs _ _ hq2)) (dp_nT (ns := []) hv) (shaped_nT _) (shaped_nT _) ?_
        rw [eqv_nT]
        walk_at "rds"
        exact ⟨rfl, S17.same hs⟩
      obtain ⟨rfl, S12⟩ := hm
      clear S11 hl11 hk11
      walk_at "rds"
      refine ⟨fun σ' H' => ∃ dv : V, σ' = [some (.ref s0), some (.ref x.1), some (.int (0 + (i : Int))), some (.ref t), some (.ref u), some (.ref b), some (.ref c), some (.ref l), some (.ref k), some dv, x10, x11, x12, x13, x14] ∧ LB T.tabs T.C_Book zs ws x t u b c H' ∧ Due zs ws dv, ?_, fun σ1 H13 hm => ?_⟩
      · walk_at "rds"
        refine ⟨t, u, zs, ws, rfl, S12.ht, gz, S12.hu, gw, fun e H13 s13 => ?_, fun d H13 hd hle s13 => ?_⟩
        · walk_at "rds"
          exact ⟨_, rfl, S12.same s13, .inl ⟨e, rfl⟩⟩
        · walk_at "rds"
          exact ⟨_, rfl, S12.same s13, .inr ⟨d, rfl, hd, hle⟩⟩
      obtain ⟨dv, rfl, S13, hdv⟩ := hm
      clear S12
      walk_at "rds"
      refine ⟨fun σ' H' => σ' = [some (.ref s0), some (.ref x.1), some (.int (0 + (i : Int))), some (.ref t), some (.ref u), some (.ref b), some (.ref c), some (.ref l), some (.ref k), some dv, x10, x11, x12, x13, x14] ∧ LB T.tabs T.C_Book zs ws x t u b c H', ?_, fun σ1 H14 hm => ?_⟩
      · walk_at "rds"
        refine part_mk S13.hb S13.ht gz S13.hc S13.hu gw S13.hT fun v1 H14 hv1 e14 T14 => ?_
        obtain rfl := hv1.one hdv
        have S14 := S13.ext e14 T14
        clear S13 e14 T14
        walk_at "rds"
        refine ⟨hv1.scal, ?_⟩
        rw [decide_eq_true rfl]
        walk_at "rds"
        refine part_mk S14.hc S14.hu gw S14.hb S14.ht gz S14.hT fun v2 H15 hv2 e15 T15 => ?_
        obtain rfl := hv2.swap.one hdv
        have S15 := S14.ext e15 T15
        clear S14 e15 T15
        walk_at "rds"
        refine ⟨hv1.scal, ?_⟩
        rw [decide_eq_true rfl]
        walk_at "rds"
        refine ⟨b, t, zs, rfl, S15.hb, S15.ht, gz, fun b1 t1 H16 hb1 ht1 s16 hbk1 hv1 => ?_⟩
        have S16 := S15.same s16
        clear S15 s16
        walk_at "rds"
        refine part_mk S16.hb S16.ht gz hbk1 hv1 gb S16.hT fun v3 H17 hv3 e17 T17 => ?_
        obtain rfl := hv3.base gz
        have S17 := S16.ext e17 T17
        clear S16 e17 T17
        walk_at "rds"
        refine ⟨rfl, ?_⟩
        rw [decide_eq_true rfl]
        walk_at "rds"
        exact ⟨rfl, S17⟩
      obtain ⟨rfl, S14⟩ := hm
      clear S13
      walk_at "rds"
      refine ⟨fun σ' H' => ∃ (f : Addr) (H0 : Hp), σ' = [some (.ref s0), some (.ref x.1), some (.int (0 + (i : Int))), some (.ref t), some (.ref u), some (.ref b), some (.ref c), some (.ref l), some (.ref k), some dv, some (.ref f), x11, x12, x13, x14] ∧ LB T.tabs T.C_Book zs ws x t u b c H0 ∧ Same H0 H' ∧ H0 f = none ∧ H' f = some (.lst [.bl (zs.all fun y => idD ws y)]), ?_, fun σ1 H15 hm => ?_⟩
      · have ht14 := S14.ht
        walk_at "rds"
        refine RD.lcF (walk_tup (xs := zs.map V.str)) (by omega) (fun i => (zs[i]?).map fun y => V.bl (idD ws y)) (fun H' s => .inl (.inl (s _ _ ht14))) (fun i v H15 Z N hi hx s15 hZ hN => ?_) (fun D H15 hD s15 hv15 => ?_)
        · rw [List.getElem?_map] at hx
          obtain ⟨y, hy, rfl⟩ := Option.map_eq_some_iff.mp hx
          have hy8 := (piece_size (gz.piece y (List.mem_of_getElem? hy))).2
          walk_at "rds"
          refine ⟨rfl, ?_⟩
          walk_at "rds"
          refine ⟨u, ws, y, rfl, (S14.same s15).hu, gw, by rw [tl_size]; exact hy8, fun H16 s16 => ?_⟩
          exact hZ _ _ (by rw [hy]; rfl) s16
        · have e : (List.range (zs.map V.str).length).filterMap (fun i => (zs[i]?).map fun y => V.bl (idD ws y)) = (zs.map fun y => idD ws y).map V.bl := by
            rw [List.length_map, RD.range_get (fun y => V.bl (idD ws y)) zs, List.map_map]
            rfl
          rw [e] at hv15
          walk_at "rds"
          exact ⟨_, _, rfl, S14.same s15, hs, hp, by rw [hv, List.all_map]; rfl⟩
      obtain ⟨f, H0, rfl, S15, s15, hf0, hf15⟩ := hm
      clear S14
      walk_at "rds"
      refine ⟨fun σ' H' => σ' = [some (.ref s0), some (.ref x.1), some (.int (0 + (i : Int))), some (.ref t), some (.ref u), some (.ref b), some (.ref c), some (.ref l), some (.ref k), some dv, some (.ref f), x11, x12, x13, x14] ∧ LB T.tabs T.C_Book zs ws x t u b c H' ∧ H' f = some (.lst [.bl (zs.all fun y => idD ws y), .bl (ws.all fun y => idD zs y)]), ?_, fun σ1 H16 hm => ?_⟩
      · have hu15 := s15 _ _ S15.hu
        walk_at "rds"
        refine RD.lcF (walk_tup (xs := ws.map V.str)) (by omega) (fun i => (ws[i]?).map fun y => V.bl (idD zs y)) (fun H' s => .inl (.inl (s _ _ hu15))) (fun i v H16 Z N hi hx s16 hZ hN => ?_) (fun D H16 hD s16 hv16 => ?_)
        · rw [List.getElem?_map] at hx
          obtain ⟨y, hy, rfl⟩ := Option.map_eq_some_iff.mp hx
          have hy8 := (piece_size (gw.piece y (List.mem_of_getElem? hy))).2
          walk_at "rds"
          refine ⟨rfl, ?_⟩
          walk_at "rds"
          refine ⟨t, zs, y, rfl, (s15.trans s16) _ _ S15.ht, gz, by rw [tl_size]; exact hy8, fun H17 s17 => ?_⟩
          exact hZ _ _ (by rw [hy]; rfl) s17
        · have e : (List.range (ws.map V.str).length).filterMap (fun i => (ws[i]?).map fun y => V.bl (idD zs y)) = (ws.map fun y => idD zs y).map V.bl := by
            rw [List.length_map, RD.range_get (fun y => V.bl (idD zs y)) ws, List.map_map]
            rfl
          rw [e] at hv16
          have hf16 := s16 _ _ hf15
          clear hf15
          walk_at "rds"
          refine RD.app hf16 (RD.szl (by show 1 < _; decide)) fun H17 k17 h17 => ?_
          exact ⟨rfl, S15.same (RD.same_mut k17 (s15.trans s16) hf0), by rw [h17, List.all_map]; rfl⟩
      obtain ⟨rfl, S16, hf16⟩ := hm
      clear S15 s15 hf0 hf15
      walk_at "rds"
      refine ⟨fun σ' H' => σ' = [some (.ref s0), some (.ref x.1), some (.int (0 + (i : Int))), some (.ref t), some (.ref u), some (.ref b), some (.ref c), some (.ref l), some (.ref k), some dv, some (.ref f), x11, x12, x13, x14] ∧ LB T.tabs T.C_Book zs ws x t u b c H', ?_, fun σ1 H17 hm => ?_⟩
      · walk_at "rds"
        refine ⟨b, c, t, u, zs, ws, rfl, S16.hb, S16.ht, gz, S16.hc, S16.hu, gw, fun H17 s17 => ?_⟩
        have S17 := S16.same s17
        have hf17 := s17 _ _ hf16
        clear S16 s17 hf16
        walk_at "rds"
        refine ⟨_, _, rfl, ?_⟩
        rw [decide_eq_true rfl]
        walk_at "rds"
        refine ⟨c, b, u, t, ws, zs, rfl, S17.hc, S17.hu, gw, S17.hb, S17.ht, gz, fun H18 s18 => ?_⟩
        have S18 := S17.same s18
        have hf18 := s18 _ _ hf17
        clear S17 s18 hf17
        walk_at "rds"
        refine ⟨_, _, rfl, ?_⟩
        rw [decide_eq_true rfl]
        walk_at "rds"
        exact ⟨rfl, S18⟩
      obtain ⟨rfl, S17⟩ := hm
      clear S16 hf16
      walk_at "rds"
      refine ⟨fun σ' H' => σ' = [some (.ref s0), some (.ref x.1), some (.int (0 + (i : Int))), some (.ref t), some (.ref u), some (.ref b), some (.ref c), some (.ref l), some (.ref k), some dv, some (.ref f), x11, x12, x13, x14] ∧ LB T.tabs T.C_Book zs ws x t u b c H', ?_, fun σ1 H18 hm => ?_⟩
      · walk_at "rds"
        refine ⟨rfl, ?_⟩
        walk_at "rds"
        refine ⟨b, t, zs, rfl, S17.hb, S17.ht, gz, fun b1 t1 H18 hb1 ht1 s18 hbk1 hv1 => ?_⟩
        have S18 := S17.same s18
        obtain ⟨dx1, hb1⟩ := hbk1
        clear S17 s18
        walk_at "rds"
        refine RB.fldV hb1 T.cl_Book T.no_Book_pieces rfl ?_
        walk_at "rds"
        refine SOT.sortTS hv1 (by have := gb.few; omega) fun p1 H19 ys hp1 s19 hy1 hpm1 hst1 => ?_
        have S19 := S18.same s19
        clear S18 s19 hb1 hv1
        walk_at "rds"
        refine ⟨c, u, ws, rfl, S19.hc, S19.hu, gw, fun b2 t2 H20 hb2 ht2 s20 hbk2 hv2 => ?_⟩
        have S20 := S19.same s20
        have hy20 := s20 _ _ hy1
        obtain ⟨dx2, hb2⟩ := hbk2
        clear S19 s20 hy1
        walk_at "rds"
        refine RB.fldV hb2 T.cl_Book T.no_Book_pieces rfl ?_
        walk_at "rds"
        refine SOT.sortTS hv2 (by have := (good_base gw).few; omega) fun p2 H21 us hp2 s21 hy2 hpm2 hst2 => ?_
        have S21 := S20.same s21
        have hy21 := s21 _ _ hy20
        clear S20 s21 hy20 hb2 hv2
        walk_at "rds"
        refine RD.eqD (.lst (.inl (.inl hy21)) (dp_strs ys)) (.lst (.inl (.inl hy2)) (dp_strs us)) (shaped_L fun z hz => gb.piece z (hpm1.mem_iff.mp hz)) (shaped_L fun z hz => (good_base gw).piece z (hpm2.mem_iff.mp hz)) ?_
        rw [eqv_L]
        have hb := sorted_base gz gw hpm1 hst1 hpm2 hst2
        have hd : decide (dv = V.non) = decide (ys = us) := by
          rcases hdv with ⟨e, rfl⟩ | ⟨d, rfl, hd⟩
          · rw [decide_eq_true rfl, decide_eq_true (hb.mpr e)]
          · rw [decide_eq_false (by intro e; cases e), decide_eq_false fun e => by
              have h1 := hd.1
              rw [hb.mp e] at h1
              exact List.not_mem_nil h1]
        rw [← hd]
        refine ⟨rfl, ?_⟩
        rw [decide_eq_true rfl]
        walk_at "rds"
        exact ⟨rfl, S21⟩
      obtain ⟨rfl, S18⟩ := hm
      clear S17
      walk_at "rds"
      refine ⟨fun σ' H' => ∃ m N : Nat, σ' = [some (.ref s0), some (.ref x.1), some (.int (0 + (i : Int))), some (.ref t), some (.ref u), some (.ref b), some (.ref c), some (.ref l), some (.ref k), some dv, some (.ref f), some (.int (m : Int)), x12, x13, x14] ∧ LB T.tabs T.C_Book zs ws x t u b c H' ∧ m ≤ 20 ∧ N ≤ 2000 ∧ ∀ ys : List Str, ys = zs ∨ ys = ws → ∀ F : List Str, F.Nodup → (∀ w, w ∈ F → IL.Idle (tls ys) (tl w) ∧ w.cps.size ≤ m) → F.length ≤ N, ?_, fun σ1 H19 hm => ?_⟩
      · walk_at "rds"
        have S19 := S18.same hs
        have hl19 : H' p' = some (.lst [V.int 0, .int 8, .int 7, .int 5, .int 4, .int 4, .int 3, .int 3, .int 3]) := hv
        clear hs hv hp S18
        refine RB.catT S19.ht S19.hu (RD.szo (by omega)) fun p2 H20 s20 hp20 _ => ?_
        rw [← List.map_append] at hp20
        have S20 := S19.same s20
        have hl20 := s20 _ _ hl19
        clear S19 s20 hl19
        walk_at "rds"
        have hsum : ((zs ++ ws).map (·.length)).sum ≤ 4000 := by
          rw [List.map_append, List.sum_append]
          have := gz.sum
          have := gw.sum
          omega
        refine ⟨p2, zs ++ ws, rfl, hp20, hsum, fun ys H21 ho s21 => ?_⟩
        have S21 := S20.same s21
        have hl21 := s21 _ _ hl20
        obtain ⟨cs, hcs, hcn, hc1, hc8, hall⟩ := own_two gz gw ho
        have hlen : (Txt.join ("" : Str) ys).length = cs.length := by
          rw [← hcs]
          exact Array.length_toList.symm
        obtain ⟨m, N, hm, hm20, hN0, hN⟩ := most_row hc1 hc8
        have hjl : (Txt.join ("" : Str) ys).length ≤ sizeLine := RD.szo (by omega)
        clear S20 s21 hl20 hp20
        walk_at "rds"
        rw [hlen]
        refine RD.ixL (.inl (.inl hl21)) (at_nat hm) ?_
        walk_at "rds"
        refine ⟨m, N, rfl, S21, hm20, hN0, fun vs h F n hF => ?_⟩
        rcases h with h | h
        · rw [h] at hF
          exact lot_few (fun y hy => hall y (List.mem_append_left _ hy)) hN F n hF
        · rw [h] at hF
          exact lot_few (fun y hy => hall y (List.mem_append_right _ hy)) hN F n hF
      obtain ⟨m, N, rfl, S19, hm20, hN0, hN⟩ := hm
      clear S18
      walk_at "rds"
      refine ⟨fun σ' H' => ∃ fv : V, σ' = [some (.ref s0), some (.ref x.1), some (.int (0 + (i : Int))), some (.ref t), some (.ref u), some (.ref b), some (.ref c), some (.ref l), some (.ref k), some dv, some (.ref f), some (.int (m : Int)), some fv, x13, x14] ∧ LB T.tabs T.C_Book zs ws x t u b c H' ∧ FirstV m dv fv, ?_, fun σ1 H20 hm => ?_⟩
      · walk_at "rds"
        refine ⟨t, u, zs, ws, m, N, rfl, S19.ht, gz, S19.hu, gw, hm20, hN0, hN, fun hno H20 s20 => ?_, fun z H20 hz hap hle s20 => ?_⟩
        · walk_at "rds"
          refine ⟨_, rfl, S19.same s20, ?_⟩
          rcases hdv with ⟨e, rfl⟩ | ⟨d, rfl, hd⟩
          · exact .inl ⟨rfl, rfl⟩
          · exact .inr ⟨d, rfl, .inr ⟨no_due hd hno, rfl⟩⟩
        · walk_at "rds"
          refine ⟨_, rfl, S19.same s20, ?_⟩
          rcases hdv with ⟨e, rfl⟩ | ⟨d, rfl, hd⟩
          · exact absurd (part_none e (tl z)) hap
          · obtain ⟨e, hdm⟩ := first_due gz gw hd hz hap hle
            exact .inr ⟨d, rfl, .inl ⟨hdm, by rw [e]⟩⟩
      obtain ⟨fv, rfl, S20, hfv⟩ := hm
      clear S19 hN
      have hd8 : ∀ d, dv = .str d → d.length ≤ sizeLine := fun d e => by
        rcases hdv with ⟨_, rfl⟩ | ⟨d', rfl, hd⟩
        · cases e
        · cases e
          have h : d.cps.size ≤ 8 := by
            rcases part_mem.mp hd.1 with ⟨h, _⟩ | ⟨h, _⟩
            · exact (piece_size (gz.piece d h)).2
            · exact (piece_size (gw.piece d h)).2
          exact RD.szo (by show d.cps.size ≤ _; omega)
      clear hdv
      rcases hfv with ⟨rfl, rfl⟩ | ⟨d, rfl, ⟨hdm, rfl⟩ | ⟨hdm, rfl⟩⟩
      · walk_at "rds"
        refine ⟨rfl, ?_⟩
        rw [decide_eq_true rfl]
        walk_at "rds"
        exact ⟨_, _, _, _, _, _, _, _, _, _, _, _, _, rfl, S20.bag, S20.hT⟩
      · have hd8 := hd8 d rfl
        walk_at "rds"
        refine ⟨rfl, ?_⟩
        rw [decide_eq_false (by intro e; cases e)]
        walk_at "rds"
        refine RD.ite_d (fun h => ?_) (fun h => absurd (show (d.length : Int) ≤ (m : Int) by have : d.length = d.cps.size := rfl; omega) h)
        walk_at "rds"
        refine RD.ite_nd (fun n => absurd rfl n) (fun _ => ?_)
        walk_at "rds"
        exact ⟨_, _, _, _, _, _, _, _, _, _, _, _, _, rfl, S20.bag, S20.hT⟩
      · have hd8 := hd8 d rfl
        walk_at "rds"
        refine ⟨rfl, ?_⟩
        rw [decide_eq_false (by intro e; cases e)]
        walk_at "rds"
        refine RD.ite_d (fun h => absurd (show d.cps.size ≤ m by have : d.length = d.cps.size := rfl; omega) hdm) (fun h => ?_)
        walk_at "rds"
        exact ⟨_, _, _, _, _, _, _, _, _, _, _, _, _, rfl, S20.bag, S20.hT⟩
    · walk_at "rds"
      exact q _
end


end K27

namespace K27
open PySem PySem.Spec PyProof.Rows L2
theorem txt {K : PySem.W.Frag} {h : Heap} {mg : Str → Option Value} (X : K.In h) (G : h.Ns mainGlobals mg) (c : HX.SaysX dck dfn K) : ∃ T : Txt Pg K mg, T.a_law = He.ga K "law" ∧ T.cs = dtf.map (He.cT K) ∧ (True) := by
  obtain ⟨fd_q_is_log, F_q_is_log⟩ := HX.plB_ok (d := ⟨("is_log", none), "is_log", "is_log", s_q_is_log⟩) (c.fn_ 1 rfl) (c.fact 0 rfl)
  obtain ⟨fd_is_piece, F_is_piece⟩ := HX.plB_ok (d := ⟨("is_piece", none), "is_piece", "is_piece", s_is_piece⟩) (c.fn_ 2 rfl) (c.fact 2 rfl)
  obtain ⟨fd_Book_init, F_Book_init⟩ := HX.plB_ok (d := ⟨("Book", some "__init__"), "__init__", "Book.__init__", s_Book_init⟩) (c.fn_ 3 rfl) (c.fact 4 rfl)
  obtain ⟨fd_Book_eq, F_Book_eq⟩ := HX.plB_ok (d := ⟨("Book", some "__eq__"), "__eq__", "Book.__eq__", s_Book_eq⟩) (c.fn_ 4 rfl) (c.fact 5 rfl)
  obtain ⟨fd_q_idle_ends, F_q_idle_ends⟩ := HX.plB_ok (d := ⟨("idle_ends", none), "idle_ends", "idle_ends", s_q_idle_ends⟩) (c.fn_ 5 rfl) (c.fact 6 rfl)
  obtain ⟨fd_raw_is_idle, F_raw_is_idle⟩ := HX.plB_ok (d := ⟨("raw_is_idle", none), "raw_is_idle", "raw_is_idle", s_raw_is_idle⟩) (c.fn_ 6 rfl) (c.fact 8 rfl)
  obtain ⟨fd_is_needless, F_is_needless⟩ := HX.plB_ok (d := ⟨("is_needless", none), "is_needless", "is_needless", s_is_needless⟩) (c.fn_ 7 rfl) (c.fact 10 rfl)
  obtain ⟨fd_q_needless, F_q_needless⟩ := HX.plB_ok (d := ⟨("needless", none), "needless", "needless", s_q_needless⟩) (c.fn_ 8 rfl) (c.fact 12 rfl)
  obtain ⟨fd_base, F_base⟩ := HX.plB_ok (d := ⟨("base", none), "base", "base", s_base⟩) (c.fn_ 9 rfl) (c.fact 14 rfl)
  obtain ⟨fd_q_parting, F_q_parting⟩ := HX.plB_ok (d := ⟨("parting", none), "parting", "parting", s_q_parting⟩) (c.fn_ 10 rfl) (c.fact 16 rfl)
  obtain ⟨fd_is_held, F_is_held⟩ := HX.plB_ok (d := ⟨("is_held", none), "is_held", "is_held", s_is_held⟩) (c.fn_ 11 rfl) (c.fact 18 rfl)
  obtain ⟨fd_bag, F_bag⟩ := HX.plB_ok (d := ⟨("_law_bag", none), "_law_bag", "_law_bag", s_bag⟩) (c.fn_ 12 rfl) (c.fact 20 rfl)
  obtain ⟨fd_pick, F_pick⟩ := HX.plB_ok (d := ⟨("_law_pick", none), "_law_pick", "_law_pick", s_pick⟩) (c.fn_ 13 rfl) (c.fact 22 rfl)
  obtain ⟨fd_some, F_some⟩ := HX.plB_ok (d := ⟨("_law_some", none), "_law_some", "_law_some", s_some⟩) (c.fn_ 14 rfl) (c.fact 24 rfl)
  obtain ⟨fd_own, F_own⟩ := HX.plB_ok (d := ⟨("_law_own", none), "_law_own", "_law_own", s_own⟩) (c.fn_ 15 rfl) (c.fact 26 rfl)
  obtain ⟨fd_named, F_named⟩ := HX.plB_ok (d := ⟨("_law_named", none), "_law_named", "_law_named", s_named⟩) (c.fn_ 16 rfl) (c.fact 28 rfl)
  obtain ⟨fd_more, F_more⟩ := HX.plB_ok (d := ⟨("_law_more", none), "_law_more", "_law_more", s_more⟩) (c.fn_ 17 rfl) (c.fact 30 rfl)
  obtain ⟨fd_full, F_full⟩ := HX.plB_ok (d := ⟨("_law_full", none), "_law_full", "_law_full", s_full⟩) (c.fn_ 18 rfl) (c.fact 32 rfl)
  obtain ⟨fd_scant, F_scant⟩ := HX.plB_ok (d := ⟨("_law_scant", none), "_law_scant", "_law_scant", s_scant⟩) (c.fn_ 19 rfl) (c.fact 34 rfl)
  obtain ⟨fd_idle_ends, F_idle_ends⟩ := HX.plB_ok (d := ⟨("_law_idle_ends", none), "_law_idle_ends", "_law_idle_ends", s_idle_ends⟩) (c.fn_ 20 rfl) (c.fact 36 rfl)
  obtain ⟨fd_is_stretch, F_is_stretch⟩ := HX.plB_ok (d := ⟨("_law_is_stretch", none), "_law_is_stretch", "_law_is_stretch", s_is_stretch⟩) (c.fn_ 21 rfl) (c.fact 38 rfl)
  obtain ⟨fd_is_idle, F_is_idle⟩ := HX.plB_ok (d := ⟨("_law_is_idle", none), "_law_is_idle", "_law_is_idle", s_is_idle⟩) (c.fn_ 22 rfl) (c.fact 40 rfl)
  obtain ⟨fd_grown, F_grown⟩ := HX.plB_ok (d := ⟨("_law_grown", none), "_law_grown", "_law_grown", s_grown⟩) (c.fn_ 23 rfl) (c.fact 42 rfl)
  obtain ⟨fd_beside, F_beside⟩ := HX.plB_ok (d := ⟨("_law_beside", none), "_law_beside", "_law_beside", s_beside⟩) (c.fn_ 24 rfl) (c.fact 44 rfl)
  obtain ⟨fd_needless, F_needless⟩ := HX.plB_ok (d := ⟨("_law_needless", none), "_law_needless", "_law_needless", s_needless⟩) (c.fn_ 25 rfl) (c.fact 46 rfl)
  obtain ⟨fd_parting, F_parting⟩ := HX.plB_ok (d := ⟨("_law_parting", none), "_law_parting", "_law_parting", s_parting⟩) (c.fn_ 26 rfl) (c.fact 48 rfl)
  obtain ⟨fd_first_apart, F_first_apart⟩ := HX.plB_ok (d := ⟨("_law_first_apart", none), "_law_first_apart", "_law_first_apart", s_first_apart⟩) (c.fn_ 27 rfl) (c.fact 50 rfl)
  obtain ⟨fd_other, F_other⟩ := HX.plB_ok (d := ⟨("_law_other", none), "_law_other", "_law_other", s_other⟩) (c.fn_ 28 rfl) (c.fact 52 rfl)
  obtain ⟨fd_flag, F_flag⟩ := HX.plB_ok (d := ⟨("_law_flag", none), "_law_flag", "_law_flag", s_flag⟩) (c.fn_ 29 rfl) (c.fact 54 rfl)
  obtain ⟨fd_law, F_law⟩ := HX.plB_ok (d := ⟨("law", none), "law", "law", s_law⟩) (c.fn_ 30 rfl) (c.fact 56 rfl)
  have ST_BadBook_init : HX.SiT Pg s_BadBook_init "BadBook.__init__" "part" "part" := ⟨NdefX.nscope_by (by decide +kernel), by decide +kernel, ⟨_, _, _, _, _, _, _, _, _, _, rfl, _, fun _ _ _ _ => rfl⟩, by decide +kernel, by decide +kernel, by decide +kernel, by decide +kernel⟩
  obtain ⟨fd_BadBook_init, Z_BadBook_init, B_BadBook_init⟩ := HX.sic_ok (x := "BadBook") (mg := mg) ST_BadBook_init (c.fact 66 rfl) (c.fact 70 rfl) (c.fact 71 rfl) (c.fn_ 0 rfl) (He.free_ok X G (x := "super") (c.fact 72 rfl)) (fun _ _ _ _ _ _ _ us hl => match us, hl with | [_, _], _ => rfl)
  exact ⟨{ a_q_is_log := _, fd_q_is_log := fd_q_is_log, F_q_is_log := F_q_is_log, b_q_is_log := F_q_is_log.binds (ps := ["thing"]) (fun _ _ _ _ _ _ us hl => match us, hl with | [_], _ => rfl), g_q_is_log := He.glo_ok X G (x := "is_log") (c.fact 1 rfl), a_is_piece := _, fd_is_piece := fd_is_piece, F_is_piece := F_is_piece, b_is_piece := F_is_piece.binds (ps := ["thing"]) (fun _ _ _ _ _ _ us hl => match us, hl with | [_], _ => rfl), g_is_piece := He.glo_ok X G (x := "is_piece") (c.fact 3 rfl), a_Book_init := _, fd_Book_init := fd_Book_init, F_Book_init := F_Book_init, b_Book_init := F_Book_init.binds (ps := ["self", "pieces"]) (fun _ _ _ _ _ _ us hl => match us, hl with | [_, _], _ => rfl), a_Book_eq := _, fd_Book_eq := fd_Book_eq, F_Book_eq := F_Book_eq, b_Book_eq := F_Book_eq.binds (ps := ["self", "other"]) (fun _ _ _ _ _ _ us hl => match us, hl with | [_, _], _ => rfl), a_q_idle_ends := _, fd_q_idle_ends := fd_q_idle_ends, F_q_idle_ends := F_q_idle_ends, b_q_idle_ends := F_q_idle_ends.binds (ps := ["book", "log"]) (fun _ _ _ _ _ _ us hl => match us, hl with | [_, _], _ => rfl), g_q_idle_ends := He.glo_ok X G (x := "idle_ends") (c.fact 7 rfl), a_raw_is_idle := _, fd_raw_is_idle := fd_raw_is_idle, F_raw_is_idle := F_raw_is_idle, b_raw_is_idle := F_raw_is_idle.binds (ps := ["book", "log"]) (fun _ _ _ _ _ _ us hl => match us, hl with | [_, _], _ => rfl), g_raw_is_idle := He.glo_ok X G (x := "raw_is_idle") (c.fact 9 rfl), a_is_needless := _, fd_is_needless := fd_is_needless, F_is_needless := F_is_needless, b_is_needless := F_is_needless.binds (ps := ["book", "number"]) (fun _ _ _ _ _ _ us hl => match us, hl with | [_, _], _ => rfl), g_is_needless := He.glo_ok X G (x := "is_needless") (c.fact 11 rfl), a_q_needless := _, fd_q_needless := fd_q_needless, F_q_needless := F_q_needless, b_q_needless := F_q_needless.binds (ps := ["book"]) (fun _ _ _ _ _ _ us hl => match us, hl with | [_], _ => rfl), g_q_needless := He.glo_ok X G (x := "needless") (c.fact 13 rfl), a_base := _, fd_base := fd_base, F_base := F_base, b_base := F_base.binds (ps := ["book"]) (fun _ _ _ _ _ _ us hl => match us, hl with | [_], _ => rfl), g_base := He.glo_ok X G (x := "base") (c.fact 15 rfl), a_q_parting := _, fd_q_parting := fd_q_parting, F_q_parting := F_q_parting, b_q_parting := F_q_parting.binds (ps := ["book", "other"]) (fun _ _ _ _ _ _ us hl => match us, hl with | [_, _], _ => rfl), g_q_parting := He.glo_ok X G (x := "parting") (c.fact 17 rfl), a_is_held := _, fd_is_held := fd_is_held, F_is_held := F_is_held, b_is_held := F_is_held.binds (ps := ["book", "other"]) (fun _ _ _ _ _ _ us hl => match us, hl with | [_, _], _ => rfl), g_is_held := He.glo_ok X G (x := "is_held") (c.fact 19 rfl), a_bag := _, fd_bag := fd_bag, F_bag := F_bag, b_bag := F_bag.binds (ps := ["_law_script"]) (fun _ _ _ _ _ _ us hl => match us, hl with | [_], _ => rfl), g_bag := He.glo_ok X G (x := "_law_bag") (c.fact 21 rfl), a_pick := _, fd_pick := fd_pick, F_pick := F_pick, b_pick := F_pick.binds (ps := ["_law_bag_here", "_law_many"]) (fun _ _ _ _ _ _ us hl => match us, hl with | [_, _], _ => rfl), g_pick := He.glo_ok X G (x := "_law_pick") (c.fact 23 rfl), a_some := _, fd_some := fd_some, F_some := F_some, b_some := F_some.binds (ps := ["_law_bag_here", "_law_things"]) (fun _ _ _ _ _ _ us hl => match us, hl with | [_, _], _ => rfl), g_some := He.glo_ok X G (x := "_law_some") (c.fact 25 rfl), a_own := _, fd_own := fd_own, F_own := F_own, b_own := F_own.binds (ps := ["_law_pieces"]) (fun _ _ _ _ _ _ us hl => match us, hl with | [_], _ => rfl), g_own := He.glo_ok X G (x := "_law_own") (c.fact 27 rfl), a_named := _, fd_named := fd_named, F_named := F_named, b_named := F_named.binds (ps := ["_law_bag_here", "_law_pieces"]) (fun _ _ _ _ _ _ us hl => match us, hl with | [_, _], _ => rfl), g_named := He.glo_ok X G (x := "_law_named") (c.fact 29 rfl), a_more := _, fd_more := fd_more, F_more := F_more, b_more := F_more.binds (ps := ["_law_bag_here", "_law_pieces", "_law_most"]) (fun _ _ _ _ _ _ us hl => match us, hl with | [_, _, _], _ => rfl), g_more := He.glo_ok X G (x := "_law_more") (c.fact 31 rfl), a_full := _, fd_full := fd_full, F_full := F_full, b_full := F_full.binds (ps := ["_law_bag_here"]) (fun _ _ _ _ _ _ us hl => match us, hl with | [_], _ => rfl), g_full := He.glo_ok X G (x := "_law_full") (c.fact 33 rfl), a_scant := _, fd_scant := fd_scant, F_scant := F_scant, b_scant := F_scant.binds (ps := ["_law_bag_here"]) (fun _ _ _ _ _ _ us hl => match us, hl with | [_], _ => rfl), g_scant := He.glo_ok X G (x := "_law_scant") (c.fact 35 rfl), a_idle_ends := _, fd_idle_ends := fd_idle_ends, F_idle_ends := F_idle_ends, b_idle_ends := F_idle_ends.binds (ps := ["_law_pieces", "_law_log"]) (fun _ _ _ _ _ _ us hl => match us, hl with | [_, _], _ => rfl), g_idle_ends := He.glo_ok X G (x := "_law_idle_ends") (c.fact 37 rfl), a_is_stretch := _, fd_is_stretch := fd_is_stretch, F_is_stretch := F_is_stretch, b_is_stretch := F_is_stretch.binds (ps := ["_law_pieces", "_law_log", "_law_is_idle_here", "_law_begin", "_law_end"]) (fun _ _ _ _ _ _ us hl => match us, hl with | [_, _, _, _, _], _ => rfl), g_is_stretch := He.glo_ok X G (x := "_law_is_stretch") (c.fact 39 rfl), a_is_idle := _, fd_is_idle := fd_is_idle, F_is_idle := F_is_idle, b_is_idle := F_is_idle.binds (ps := ["_law_pieces", "_law_log"]) (fun _ _ _ _ _ _ us hl => match us, hl with | [_, _], _ => rfl), g_is_idle := He.glo_ok X G (x := "_law_is_idle") (c.fact 41 rfl), a_grown := _, fd_grown := fd_grown, F_grown := F_grown, b_grown := F_grown.binds (ps := ["_law_pieces", "_law_most"]) (fun _ _ _ _ _ _ us hl => match us, hl with | [_, _], _ => rfl), g_grown := He.glo_ok X G (x := "_law_grown") (c.fact 43 rfl), a_beside := _, fd_beside := fd_beside, F_beside := F_beside, b_beside := F_beside.binds (ps := ["_law_bag_here", "_law_pieces"]) (fun _ _ _ _ _ _ us hl => match us, hl with | [_, _], _ => rfl), g_beside := He.glo_ok X G (x := "_law_beside") (c.fact 45 rfl), a_needless := _, fd_needless := fd_needless, F_needless := F_needless, b_needless := F_needless.binds (ps := ["_law_pieces"]) (fun _ _ _ _ _ _ us hl => match us, hl with | [_], _ => rfl), g_needless := He.glo_ok X G (x := "_law_needless") (c.fact 47 rfl), a_parting := _, fd_parting := fd_parting, F_parting := F_parting, b_parting := F_parting.binds (ps := ["_law_pieces", "_law_others"]) (fun _ _ _ _ _ _ us hl => match us, hl with | [_, _], _ => rfl), g_parting := He.glo_ok X G (x := "_law_parting") (c.fact 49 rfl), a_first_apart := _, fd_first_apart := fd_first_apart, F_first_apart := F_first_apart, b_first_apart := F_first_apart.binds (ps := ["_law_pieces", "_law_others", "_law_most"]) (fun _ _ _ _ _ _ us hl => match us, hl with | [_, _, _], _ => rfl), g_first_apart := He.glo_ok X G (x := "_law_first_apart") (c.fact 51 rfl), a_other := _, fd_other := fd_other, F_other := F_other, b_other := F_other.binds (ps := ["_law_bag_here", "_law_pieces"]) (fun _ _ _ _ _ _ us hl => match us, hl with | [_, _], _ => rfl), g_other := He.glo_ok X G (x := "_law_other") (c.fact 53 rfl), a_flag := _, fd_flag := fd_flag, F_flag := F_flag, b_flag := F_flag.binds (ps := ["_law_told", "_law_due"]) (fun _ _ _ _ _ _ us hl => match us, hl with | [_, _], _ => rfl), g_flag := He.glo_ok X G (x := "_law_flag") (c.fact 55 rfl), a_law := _, fd_law := fd_law, F_law := F_law, b_law := F_law.binds (ps := ["_law_script"]) (fun _ _ _ _ _ _ us hl => match us, hl with | [_], _ => rfl), g_law := He.glo_ok X G (x := "law") (c.fact 57 rfl), C_LogError := He.ga K "LogError", g_LogError := He.glo_ok X G (x := "LogError") (c.fact 58 rfl), xc_LogError := HX.oexB_ok (c.fact 59 rfl), ic_LogError := HX.excB_ok (c.fact 60 rfl), bx_LogError := of_decide_eq_true (c.fact 61 rfl), tx_LogError := of_decide_eq_true (c.fact 62 rfl), k_LogError := (c.fact 63 rfl), kp_LogError := (c.fact 64 rfl), C_BadBook := He.ga K "BadBook", g_BadBook := He.glo_ok X G (x := "BadBook") (c.fact 65 rfl), xc_BadBook := HX.oexB_ok (c.fact 66 rfl), ic_BadBook := HX.excB_ok (c.fact 67 rfl), bx_BadBook := of_decide_eq_true (c.fact 68 rfl), tx_BadBook := of_decide_eq_true (c.fact 69 rfl), fi_BadBook := He.eqO_ok (c.fact 73 rfl), a_BadBook_init := _, fd_BadBook_init := fd_BadBook_init, S_BadBook_init := Z_BadBook_init, b_BadBook_init := B_BadBook_init, ii_BadBook := He.eqO_ok (c.fact 74 rfl), ti_BadBook := of_decide_eq_true (c.fact 75 rfl), C_Book := He.ga K "Book", g_Book := He.glo_ok X G (x := "Book") (c.fact 76 rfl), cl_Book := He.cls_ok (x := "Book") (c.fact 77 rfl), M_Book := He.mkr_ok (x := "Book") (c.fact 78 rfl), eqc_Book := ⟨He.eqO_ok (c.fact 79 rfl), (c.fact 80 rfl), He.eqO_ok (c.fact 81 rfl), of_decide_eq_true (c.fact 82 rfl)⟩, nf_Book := (c.fact 83 rfl), ty_Book := ⟨He.eqO_ok (c.fact 84 rfl), He.eqO_ok (c.fact 85 rfl), of_decide_eq_true (c.fact 86 rfl), of_decide_eq_true (c.fact 87 rfl)⟩, kc_Book := (c.fact 88 rfl), no_Book_pieces := He.noat_ok (x := "Book") (f := "pieces") (c.fact 89 rfl), g_LETTERS := He.str_ok X G (x := "LETTERS") (c.fact 90 rfl), g_MOST_PIECES := He.int_ok X G (x := "MOST_PIECES") (c.fact 91 rfl), g_MOST_LONG := He.int_ok X G (x := "MOST_LONG") (c.fact 92 rfl), m_abs := He.free_ok X G (x := "abs") (c.fact 93 rfl), m_all := He.free_ok X G (x := "all") (c.fact 94 rfl), m_any := He.free_ok X G (x := "any") (c.fact 95 rfl), m_bool := He.free_ok X G (x := "bool") (c.fact 96 rfl), m_enumerate := He.free_ok X G (x := "enumerate") (c.fact 97 rfl), m_int := He.free_ok X G (x := "int") (c.fact 98 rfl), m_isinstance := He.free_ok X G (x := "isinstance") (c.fact 99 rfl), m_len := He.free_ok X G (x := "len") (c.fact 100 rfl), m_list := He.free_ok X G (x := "list") (c.fact 101 rfl), m_min := He.free_ok X G (x := "min") (c.fact 102 rfl), m_range := He.free_ok X G (x := "range") (c.fact 103 rfl), m_set := He.free_ok X G (x := "set") (c.fact 104 rfl), m_sorted := He.free_ok X G (x := "sorted") (c.fact 105 rfl), m_str := He.free_ok X G (x := "str") (c.fact 106 rfl), m_sum := He.free_ok X G (x := "sum") (c.fact 107 rfl), m_super := He.free_ok X G (x := "super") (c.fact 72 rfl), m_tuple := He.free_ok X G (x := "tuple") (c.fact 108 rfl), cc_q_parting := (He.cT K ("parting", none)).1, cp_q_parting := (He.cT K ("parting", none)).2, ce_q_parting := HXT.code_ok F_q_parting, cd := of_decide_eq_true (c.fact 109 rfl) }, rfl, rfl, trivial⟩


end K27
open PySem PySem.W PySem.Calls PyProof.Rows
theorem PySem.Challenge.cw_struckpieces_k27_whole_bases_and_two_boo_holds : PySem.Challenge.rw_struckpieces_k27_whole_bases_and_two_boo.Holds := by
  refine K27.head1 fun w mg fa h Y G hmg => ?_
  obtain ⟨K, KX, cx⟩ := Y
  have c := cx.c
  obtain ⟨T, ea, ecs, X⟩ := K27.txt KX G c
  have e := hmg.symm.trans T.g_law
  cases e
  have hcs : ∀ p ∈ T.cs, ∃ q ∈ K27.dtf, He.cT K q = p := fun p hp => by
    rw [ecs] at hp
    exact List.mem_map.mp hp
  refine ⟨K, KX, T.fd_law, T.cs, K27.spLawT K T.tabs, fun p hp => ?_, fun p hp => ?_, fun p hp => ?_, fun s u => by obtain ⟨_, _, _, _, _, _, _, _, _, e2, _⟩ := T.F_law.ex; rw [e2]; exact .of_eq rfl, fun H a ns hl _ hT hS => ⟨a, ns, rfl, hS, hl, T.tabs0 hT, fun _ => rfl⟩, fun base _ _ TB => K27.ok_law T TB⟩
  · obtain ⟨q, hq, rfl⟩ := hcs p hp
    exact cx.empty q hq
  · obtain ⟨q, hq, rfl⟩ := hcs p hp
    exact cx.out q hq
  · obtain ⟨q, hq, rfl⟩ := hcs p hp
    exact PySem.W.codeHd_of_K KX (cx.hd q hq)

