import PyProof.Rows.All
import Wide.All
import OpenK.AllK
import Wide.FinOn
import HandS.ForMost
import HandS.Exc
import HandS.TryOnly
import HandS.ExcOwn
import HandS.WordsExc
import HandS.ExcInit
import HandS.Nested
import HandS.Wide
import HandS.IsInst
import HandS.Lambda
import HandS.Gcd
import HandS.TupAny
import HandS.Walk
import HandS.ExcField
import KE.KExcIs
import HandS.Style
import HandS.Zip
import KE.KExcSuper
import HandS.EndTab
import PySem.Challenge.RW_readalike_k11_whole_tokens
import HandS.ForExc
section
set_option Elab.async false
set_option linter.all false
set_option maxRecDepth 100000
set_option maxHeartbeats 4000000
/-! errors whose __init__ says super().__init__('..') and keeps one field -/
namespace Pv
open PySem PySem.Spec PyProof.Rows L2

section
variable {prog : Program} {w : World} {A : Around} {E : Value → Shared → Prop} {h : Heap} {g : Array GenState} {d : Drawn} {t : Nat} {os : OsState}
/-- the bound ValueError.__init__ of a new error, called: its args are laid anew -/
theorem mw_called {C N u e t0 : Addr} {nm q : Str} {bs bm : List Value} {hdct : Bool} {sn : List Str} {sub : List Value} {ab : Bool} {col : Option Bool} {dd : Option Addr} {k0 k1 k2 k3 k5 : Option Value} {rest : List Value} {Q : Value → Shared → Prop}
    (hC : h.get? C = some (excClassObj nm q C N bs bm hdct sn sub ab col dd k0 k1 k2 k3 k5 "ValueError.__new__"))
    (he : h.get? e = some (PySem.HandSPX.excO C t0)) (hu : h.get? u = some (PySem.W.kxs_mw "ValueError.__init__" e)) (hz : rest.length ≤ sizeLine)
    (hq : ∀ h' t1, (∀ b o, b ≠ e → h.get? b = some o → h'.get? b = some o) → h'.get? e = some (PySem.HandSPX.excO C t1) → Q .none ⟨h', g, d, t, os⟩) :
    wpAny (model prog w) A (call (.ref u) rest) Q E ⟨h, g, d, t, os⟩ := by
  have FB := PySem.F.excBase_ValueError
  refine wpAny_call (codeAny_of_tree ?_)
  show wpAny _ A.in1 (callAny (.ref u) ⟨rest, []⟩) _ _ _
  simp only [callAny]
  refine wpAny_bind (wpAny_load hu ?_)
  simp only [PySem.W.kxs_mw, show (Value.type "method-wrapper" == Value.type "method" || Value.type "method-wrapper" == Value.type "builtin_function_or_method" || Value.type "method-wrapper" == Value.type "method-wrapper") = true by decide, if_true]
  refine PySem.W.KFB.if_so (by decide) ?_
  refine wpAny_bind (PySem.W.check_bound_init FB.toExcCallFacts hC he rfl ?_)
  refine wpAny_bind (wpAny_pure (wpAny_pure ?_))
  refine ⟨plainId_quiet FB.init.plain _, codeAny_builtin FB.initEntry ?_⟩
  exact PySem.W.exc_init_tree (cls := .ref C) (t0 := t0) (dv := none) (c2 := .none) (c3 := .none) (b4 := .bool false) he hz fun h' k e1 _ => hq h' _ k e1
end
end Pv
namespace Pv
open PySem PySem.Spec PyProof.Rows L2
/-- what the written part says of an error class at C whose __init__ is the def at fI, its cell at cc, its code object at cda -/
structure SupC (K : PySem.W.Frag) (prog : Program) (C fI cda cc : Addr) : Prop where
  ox : OexC K C
  cell : ∃ a b c, K.lookup cc = some ⟨a, b, .cell (some (.ref C)), c⟩
  code : ∃ a b vs c file tf, K.lookup cda = some ⟨a, b, .fields vs, c⟩ ∧ vs[2]? = some (.str file tf) ∧ ((prog.main.file : Str) == file) = true
  mro : PySem.W.mroIn K C (.ref C) = some true
  sup : PySem.W.ks_superIn K C C "__init__" = some (some (.builtin "ValueError.__init__"))
  ve : PySem.W.subIn K (.ref C) (.type "ValueError") = some true
  third : PySem.W.nsIn K cStatics "thirdparty.any" = some none
  top : (prog.main.scope.names.lookup ("super" : Str)).isSome = false
/-- a method's call on one line -/
theorem meth_eq {o : Expr} {name : Str} {args : List Expr} {apos pos : Pos} {env : Env} (hp : (apos.endLine == pos.line) = true)
    (hf : methodCallForm (args.length + 0) (backTo pos (starEach args env)) [] = true) :
    eval (.Call (.Attribute o name apos) args [] pos) env = (do
      let ov ← attributeBase o name env (eval o env)
      standAt apos.atName
      let (f, first) ← holding [ov] (getMethod ov name (do return (← importBound o env).getD true))
      callWith pos f first (backTo pos (starEach args env)) []) := by
  have e1 : eval (.Call (.Attribute o name apos) args [] pos) env = (do
      let ov ← attributeBase o name env (eval o env)
      standAt apos.atName
      methodCall o name apos pos env ov (args.length + 0) (backTo pos (starEach args env)) []) := by rfl
  rw [e1]
  unfold methodCall
  rw [hf]
  have e2 : methodCallPos true o env apos pos = pure pos := by
    unfold methodCallPos
    rw [hp] <;> rfl
  rw [e2]
  rfl
section
variable {X : Cx} {pins : List (Addr × Obj)} {σ : L2.St} {H : Hp} {s : Shared}
theorem super_runs {a C fI cda cc : Addr} {m : Str} {j : Nat} {p0 p1 p2 p3 p4 p5 : Pos} {body : List Stmt} {ar : Arg} {oc : Value} {od : Option Addr} {osl : Array (Option Value)} {fd : FuncData} {Q : Flow → Shared → Prop} {E : Value → Shared → Prop}
    (T : SupC X.K X.prog C fI cda cc) (I : Inv X pins σ H s) (e : H a = some (exo a C none))
    (lf : X.K.lookup fI = some ⟨oc, od, .func fd, osl⟩) (hp : (fd.params.posonlyargs ++ fd.params.args).head? = some ar)
    (hN : X.N[0]? = some ar.arg) (hσ : σ[0]? = some (some (.ref a))) (hka : X.env.kindOf ar.arg = some .local)
    (hks : X.env.kindOf "super" = some .globalImplicit) (hkc : X.env.kindOf "__class__" = some .free) (hfu : X.env.func = some fI) (hco : X.env.code = .ref cda) (hcl : X.env.cells.lookup ("__class__" : Str) = some cc) (hm : X.mg "super" = none)
    (hpos : (p2.endLine == p4.line) = true)
    (h : ∀ s', Inv X pins σ H s' → Q .next s') :
    _root_.PySem.wpAt (model X.prog X.w) X.A (.func body X.env) (exec (.Expr (.Call (.Attribute (.Call (.Name "super" p0) [] [] p1) "__init__" p2) [.Constant (.str m) j p3] [] p4) p5) X.env) Q E s := by
  obtain ⟨nm, q, Nc, bs, bm, sn, sub, ab, col, dd, k0, k1, k2, k3, k5, hC, hbm⟩ := T.ox.cls
  obtain ⟨ca, cb, ccc, lcell⟩ := T.cell
  obtain ⟨da, db, vs, dc, file, tf, lcode, hvs, hfile⟩ := T.code
  have KX := I.kIn
  have hk := I.ok.kind
  obtain ⟨t1, ho⟩ := exo_at I.hok e
  obtain ⟨mm, hns, hlook⟩ := id I.loc
  obtain ⟨u, ru, lu⟩ := hlook 0 ar.arg (.ref a) hN hσ (.inl hka)
  have hu : mm ar.arg = some (.ref a) := by
    rcases lu with ⟨_, e1⟩ | ⟨e1, _⟩
    · rw [e1, show u = Value.ref a from ru]
    · rcases e1 with e1 | e1 <;> rw [hka] at e1 <;> cases e1
  have hcls : PySem.W.clsIn X.K C = some { name := nm, bases := bs, mro := .ref C :: bm, ns := Nc, qualname := q, hasDict := true, slotNames := sn, subclasses := sub, abstract := ab, collection := col, hasDel := false } := by
    unfold PySem.W.clsIn
    rw [hC] <;> rfl
  have hCC := KX _ _ hC
  have hsup := T.sup
  unfold PySem.W.ks_superIn at hsup
  rw [hcls] at hsup
  have hne : a ≠ C := fun z => by
    rw [z, hCC] at ho
    cases ho
  have hI : ∀ {h' : Heap}, (∀ b o, s.heap.get? b = some o → h'.get? b = some o) → PySem.W.Looks (model X.prog X.w) h' (isInstance (.ref a) (.type "ValueError")) true := fun {h'} k =>
    PySem.W.Looks.andThen (fun A Q E s2 k2 q => wpAny_typeOf_ref (k2 _ _ (k _ _ ho)) q) (PySem.W.looks_subIn (KX.keeps k) T.ve)
  refine ks_wpAt_Expr_any (ks_wpAt_MethodCall ?_ (meth_eq hpos (by rfl))) I.quiet (by rfl)
  refine ks_wpAt_super_base hks hkc (by decide) hfu (KX _ _ lf) rfl hp hco (KX _ _ lcode) rfl hvs hfile T.top ?_
  obtain ⟨mb, hb1, hb2⟩ := I.mod.blt
  refine PySem.W.ks_loadName_global hk hks (Calls.loadGlobal_builtin (env := X.env) (by rw [I.ok.glob]; exact I.mod.glob.keeps I.bk) hm (by rw [I.ok.blt]; exact hb1.keeps I.bk) ((hb2 _ (by decide +kernel)).trans PyProof.Rows.Boot.«super») ⟨rfl, ?_⟩)
  refine wpAny_loadName_free hk hkc hcl ⟨_, KX _ _ lcell, rfl⟩ ?_
  refine wpAny_loadName_local hk hka hns hu ?_
  obtain ⟨hh, g, d, t, os⟩ := s
  refine ks_wpAny_isType_cls hCC rfl ⟨rfl, ?_⟩
  refine ks_wpAny_call_super hCC rfl ho rfl (fun c e => by cases e) (PySem.W.looks_mroIn KX T.mro) (fun h1 e1 k1 => ?_)
  refine PySem.W.kxs_getMethod PySem.W.kxs_ValueError e1 (PySem.W.looks_opaque (KX.keeps k1) T.third) (l₀ := .ref C :: bm) ?_ rfl (KX.keeps k1) hsup (hI k1) hne (by decide) ?_
  · exact fun A Q E s k q => wpAny_bind ((PySem.W.looks_clsIn (KX.keeps k1) hcls) A _ E s k (wpAny_pure q))
  have kk : ∀ b o, hh.get? b = some o → (h1.push (PySem.W.kxs_mw "ValueError.__init__" a)).get? b = some o := fun b o q => Heap.get?_push_of_some _ (k1 b o q)
  have hu : (h1.push (PySem.W.kxs_mw "ValueError.__init__" a)).get? h1.objs.size = some (PySem.W.kxs_mw "ValueError.__init__" a) := Heap.get?_push_size _ rfl
  show wpAny _ _ (callWith p4 (.ref h1.objs.size) [] (backTo p4 (starEach [.Constant (.str m) j p3] X.env)) []) _ _ _
  refine PySem.W.kxs_callWith (i := "ValueError.__init__") (x := a) rfl (Calls.evalArgs_plain ?_)
  refine Calls.spliced_cons ?_
  refine Calls.Constant_str (pos := p3) (k := j) ?_
  refine Calls.spliced_nil ?_
  refine ⟨hu, ?_⟩
  refine mw_called (kk _ _ hCC) (kk _ _ ho) hu (by show 1 ≤ sizeLine; decide) fun h2 t2 k2 e2 => h _ ?_
  have J := I.kept (h' := h1.push (PySem.W.kxs_mw "ValueError.__init__" a)) (t' := t + 1 + 1) kk
  have J2 := J.write (t' := t + 1 + 1) (x := a) (e := a) (o := exo a C none) (h' := h2) (by rw [e]; exact True.intro) (.inl rfl) k2 ⟨_, e2⟩ (exo_ok e2)
  have eu : upd H a (exo a C none) = H := by
    funext b
    by_cases hb : b = a
    · rw [hb, upd_same, e]
    · rw [upd_ne hb]
  rw [eu] at J2
  exact J2
end
end Pv
namespace Pv
open PySem PySem.Spec PyProof.Rows L2
/-- self is a new error: it gets its one field -/
def spIni (C : Addr) (f : Str) : Sp := fun vs H Q _ => ∃ (a : Addr) (v : V), vs = [.ref a, v] ∧ H a = some (exo a C none) ∧
  ∀ dx, H dx = none → dx ≠ a → Q .non (upd (upd H dx (exd dx [(f, v)])) a (exo a C (some dx)))
/-- the def as the written part has it -/
structure IniD (K : PySem.W.Frag) (f : Str) (fI cda cc : Addr) (fd : FuncData) : Prop where
  ex : ∃ (oc : Value) (od : Option Addr) (osl : Array (Option Value)) (qual : Str) (params : Arguments) (scope : Scope) (dV kV doc pm ct : Value) (an : Option Addr) (m : Str) (j : Nat) (p0 p1 p2 p3 p4 p5 q1 q2 q3 q4 : Pos) (ar : Arg),
    fd = PySem.W.fnX "__init__" qual params [.Expr (.Call (.Attribute (.Call (.Name "super" p0) [] [] p1) "__init__" p2) [.Constant (.str m) j p3] [] p4) p5, .Assign [.Attribute (.Name "self" q1) f q2] (.Name f q3) q4] scope [("__class__", cc)] dV kV doc pm an (.ref cda) ct ∧
    K.lookup fI = some ⟨oc, od, .func fd, osl⟩ ∧ PySem.W.codeIn K (.ref cda) qual = true ∧ (params.posonlyargs ++ params.args).head? = some ar ∧ ar.arg = "self" ∧
    NdefX.nscB ["self", f, "__class__"] ["self", f] ["__class__"] scope = true ∧ scope.names.lookup ("super" : Str) = some .globalImplicit ∧ (p2.endLine == p4.line) = true
section
variable {P : Program} {w : World} {K : PySem.W.Frag} {mg : Str → Option Value} {base : Heap} {CX : CXT} {C fI cda cc : Addr} {f : Str} {fd : FuncData}
theorem ini_ok (T : SupC K P C fI cda cc) (D : IniD K f fI cda cc fd) (hno : PySem.W.findIn K (.ref C) f = some none) (hm : mg "super" = none) (hd1 : (f == ("__debug__" : Str)) = false) (hd2 : (f == ("__classdict__" : Str)) = false) :
    FnOk P w K mg base CX 1 fI fd ["self", f] (spIni C f) := by
  obtain ⟨oc, od, osl, qual, params, scope, dV, kV, doc, pm, ct, an, m, j, p0, p1, p2, p3, p4, p5, q1, q2, q3, q4, ar, rfl, lf, hcd, hp, har, hsc, hsu, hpos⟩ := D.ex
  have S := NdefX.nscope_by hsc
  refine ⟨fun vs H Q E h => ?_, fun A outer s H args us vs Q E hr e0 hb r h => ?_⟩
  · obtain ⟨a, v, rfl, _⟩ := h
    rfl
  obtain ⟨a, v, rfl, ea, hq⟩ := h
  have KX : K.In s.heap := e0.mod.kin.keeps fun b o e => (e0.bs b o e).1
  have lim : s.heap.NoLimit := e0.mod.nolimit.keeps fun b o e => (e0.bs b o e).1
  obtain ⟨ca, cb, ccc, lcell⟩ := T.cell
  refine ks_codeAny_call_defAt hr.depth (KX _ _ lf) rfl lim (PySem.W.codeRec_of KX hcd) rfl hb S.nocell (fun ⟨n, _⟩ hy => S.par n (List.of_mem_zip hy).1) (fun h₁ hns kp => ?_) S.co S.gen S.kind
  have one : ∀ {y : Str} {c : Addr}, List.lookup y [(("__class__" : Str), cc)] = some c → y = "__class__" ∧ c = cc := fun {y c} e => by
    have hm := PySem.mem_of_lookup e
    rcases List.mem_cons.mp hm with z | z
    · injection z with z1 z2
      exact ⟨z1, z2⟩
    · cases z
  have hcc : H cc = none := by
    have hb1 := e0.mod.kin _ _ lcell
    exact (e0.bs _ _ hb1).2
  have CA : NdefX.CellsAt [(("__class__" : Str), cc)] ["__class__"] [none] s.heap H := by
    refine ⟨rfl, fun y c e => ?_, fun x y c e1 e2 => ?_, fun i y e => ?_⟩
    · rw [(one e).2]
      exact ⟨hcc, _, _, KX _ _ lcell, rfl⟩
    · rw [(one e1).1, (one e2).1]
    · cases i with
      | zero =>
        cases e
        exact ⟨cc, rfl, fun v q => by cases q⟩
      | succ i => simp at e
  have I : L2.Inv (NdefX.ncx CX P w K mg base ["self", f, "__class__"] ⟨"__init__", qual, params, [.Expr (.Call (.Attribute (.Call (.Name "super" p0) [] [] p1) "__init__" p2) [.Constant (.str m) j p3] [] p4) p5, .Assign [.Attribute (.Name "self" q1) f q2] (.Name f q3) q4], scope, [("__class__", cc)], cda⟩ fI A outer s H E) [] (NdefX.startF ["self", f, "__class__"] [.ref a, v] [none]) H { s with heap := h₁, toks := s.toks + ([("self" : Str), f].zip us).length } :=
    NdefX.inv_startN (F := ⟨"__init__", qual, params, _, scope, [("__class__", cc)], cda⟩) S hr.hd e0 rfl r CA hns kp
  have kS : scope.names.lookup ("self" : Str) = some .local := S.par _ (by simp)
  have kF : scope.names.lookup f = some .local := S.par _ (by simp)
  have kC : scope.names.lookup ("__class__" : Str) = some .free := S.frk _ (by simp)
  refine ks_wpAt_execs_cons (super_runs (cc := cc) (cda := cda) T I ea lf hp (by rw [har]; rfl) rfl (by rw [har]; exact kS) hsu kC rfl rfl rfl hm hpos fun s2 I2 => ?_)
  refine wpAt_of_wpAny ?_
  have hn0 : ([("self" : Str), f, "__class__"] : List Str)[0]? = some ("self" : Str) := rfl
  have hn1 : ([("self" : Str), f, "__class__"] : List Str)[1]? = some f := rfl
  have st := pss_one (X := NdefX.ncx CX P w K mg base ["self", f, "__class__"] ⟨"__init__", qual, params, [.Expr (.Call (.Attribute (.Call (.Name "super" p0) [] [] p1) "__init__" p2) [.Constant (.str m) j p3] [] p4) p5, .Assign [.Attribute (.Name "self" q1) f q2] (.Name f q3) q4], scope, [("__class__", cc)], cda⟩ fI A outer s H E) (ps_ost (f := f) (p' := q2) (pos := q4) (pe_var (i := 0) (pos := q1) hn0 (Or.inl kS)) (pe_var (i := 1) (pos := q3) hn1 (Or.inl kF) hd1 hd2))
  refine wpAny_mono (st.run [] s2 _ H { nx := fun _ H' => Q .non H', rt := fun _ _ => False } I2 ?_) (fun fl s' hs => ?_) fun e s' hs => hs
  · exact ⟨v, rfl, .ref a, rfl, a, C, rfl, T.ox, hno, Or.inl ⟨ea, hq⟩⟩
  · cases fl with
    | ret u =>
      obtain ⟨_, _, _, _, _, z⟩ := hs
      exact z.elim
    | next =>
      obtain ⟨σ', H', J, q⟩ := hs
      exact ⟨.non, H', J.os, J.bare, J.base, J.hok, rfl, q⟩
    | brk =>
      obtain ⟨_, _, _, z⟩ := hs
      exact z.elim
    | cont =>
      obtain ⟨_, _, _, z⟩ := hs
      exact z.elim
end
end Pv
end

section
set_option Elab.async false
set_option linter.all false
set_option maxRecDepth 100000
set_option maxHeartbeats 4000000
/-! try .. except X as n, the caught error told to the heap from then on -/
namespace Pv
open PySem PySem.Spec PyProof.Rows L2
/-- at a: an error of the class cls, its dict d -/
def ErrO (cls : Value) (d : Option Addr) (a : Addr) : HO := .ext fun h => ∃ (oe : Obj) (vs : Array Value), h.get? a = some oe ∧ Zc cls d oe ∧ oe.data = .fields vs
theorem errO_ok {P : Program} {w : World} {H : Hp} {h : Heap} {a : Addr} {cls : Value} {d : Option Addr} {oe : Obj} {vs : Array Value} (e : h.get? a = some oe) (z : Zc cls d oe) (hd : oe.data = .fields vs) : ObjOk P w H h a (ErrO cls d a) :=
  ⟨⟨oe, vs, e, z, hd⟩, ⟨oe, e⟩, fun _ _ ⟨o, v, q, r⟩ k => ⟨o, v, k o q, r⟩⟩
theorem errO_at {P : Program} {w : World} {H : Hp} {h : Heap} {a : Addr} {cls : Value} {d : Option Addr} (hok : HOk P w H h) (e : H a = some (ErrO cls d a)) : ∃ (oe : Obj) (vs : Array Value), h.get? a = some oe ∧ Zc cls d oe ∧ oe.data = .fields vs :=
  (hok a _ e).1
section
variable {X : Cx} {pins : List (Addr × Obj)} {σ : L2.St} {H : Hp} {s : Shared}
/-- an object of ours that nobody tells so far is told -/
theorem inv_told {a : Addr} {o : HO} {oe : Obj} {vs : Array Value} (I : Inv X pins σ H s) (ho : s.heap.get? a = some oe) (hd : oe.data = .fields vs) (h0 : X.s_0.heap.get? a = none) (na : H a = none)
    (hp : ∀ p ∈ X.pn ++ pins, p.1 ≠ a) (hf : a ∉ X.fs) (new : ObjOk X.prog X.w (upd H a o) s.heap a o) : Inv X pins σ (upd H a o) s := by
  have ne : ∀ {b : Addr} {u : HO}, H b = some u → b ≠ a := fun q => ne_of_none q na
  obtain ⟨mm, hns, hl⟩ := id I.loc
  have nL : X.env.locals ≠ a := fun z => by
    obtain ⟨oL, es, ep, e1, e2, _⟩ := hns
    rw [z, ho] at e1
    cases e1
    rw [hd] at e2
    cases e2
  have nC : ∀ x c, X.env.cells.lookup x = some c → c ≠ a := fun x c e z => by
    obtain ⟨v, oc, e1, e2⟩ := I.cell x c e
    rw [z, ho] at e1
    cases e1
    rw [hd] at e2
    cases e2
  refine ⟨I.ok, I.os, I.bare, ⟨I.base.keep, I.base.slot, fun b ob e n hx => ?_, I.base.there, fun b xs e => ?_, fun b ob u e => ?_, fun b ps e => ?_⟩, I.loc, I.cell, ?_, fun x c e => ?_, fun p hq => ?_, fun b u e => ?_, I.len⟩
  · rw [upd_ne (fun z => by rw [z, h0] at e; cases e)]
    exact I.base.free b ob e n hx
  · have q := I.base.tups b xs e
    rw [upd_ne (ne q)]
    exact q
  · have q := I.base.frzs b ob u e
    rw [upd_ne (ne q)]
    exact q
  · obtain ⟨m, q⟩ := I.base.tbls b ps e
    exact ⟨m, by rw [upd_ne (ne q)]; exact q⟩
  · rw [upd_ne nL]
    exact I.free
  · rw [upd_ne (nC x c e)]
    exact I.freeC x c e
  · obtain ⟨e, n, r⟩ := I.pin p hq
    exact ⟨e, by rw [upd_ne (hp p hq)]; exact n, r⟩
  · by_cases hb : b = a
    · subst hb
      rw [upd_same] at e
      cases e
      exact new
    · rw [upd_ne hb] at e
      exact (I.hok b u e).stay (fun _ _ _ q => q) (fun c q => by rw [upd_ne (ne q)]; exact q) (fun c xs q => by rw [upd_ne (ne q)]; exact q)
end
/-- what «except x as n» wishes of the body's errors: the caught one is told from then on -/
def wAsT (K : PySem.W.Frag) (c : Value) (i : Nat) (ts : Addr → Value → Option Addr → TS) (Wo : WX) (D : Ends) : WX := fun cls d σ H =>
  ∃ b, PySem.W.exmOne K cls c = some b ∧
    (b = true → ∀ a, H a = none → ts a cls d { nx := fun σ' H' => D.nx (σ'.set i none) H', rt := D.rt, bk := fun σ' H' => D.bk (σ'.set i none) H', ct := fun σ' H' => D.ct (σ'.set i none) H' } (σ.set i (some (.ref a))) (upd H a (ErrO cls d a))) ∧
    (b = false → Wo cls d σ H)
section
variable {X : Cx} {x n : Str} {c : Value} {i : Nat} {body su : List Stmt} {b0 : Stmt} {np pos pos' : Pos} {tb : WX → TS} {ts : Addr → Value → Option Addr → TS} {Wo : WX}
theorem suite_in {a : Addr} {pins : List (Addr × Obj)} {σ : L2.St} {H : Hp} {s : Shared} (I : Inv X pins σ H s) : Inv (X.suite a (X.pn ++ pins)) [] σ H s :=
  ⟨I.ok.suite _ _, I.os, I.bare, I.base, I.loc, I.cell, I.free, I.freeC, fun p hp => I.pin p (by rw [List.append_nil] at hp; exact hp), I.hok, I.len⟩
theorem suite_out {a : Addr} {pins q : List (Addr × Obj)} {σ : L2.St} {H : Hp} {s : Shared} (I : Inv (X.suite a (X.pn ++ pins)) q σ H s) (ok : X.Ok) : Inv X pins σ H s :=
  ⟨ok, I.os, I.bare, I.base, I.loc, I.cell, I.free, I.freeC, fun p hp => I.pin p (List.mem_append_left _ hp), I.hok, I.len⟩
theorem ps_try_told (hs : X.stack = X.env :: X.outer) (hf : X.env.frame = some X.env.locals) (hex : X.ex = []) (hN : X.N.Nodup) (hi : X.N[i]? = some n) (hln : X.env.kindOf n = some .local) (hc : Names X x c) (tk : Takes X Wo)
    (hb : ∀ (W : WX) (pn : List (Addr × Obj)) (xe : Value → Shared → Prop), Takes (X.tr pn xe) W → PassesOwn (model X.prog X.w) X.A X.env xe → PSs (X.tr pn xe) body (tb W))
    (hsu : ∀ (a : Addr) (cls : Value) (d : Option Addr) (pn : List (Addr × Obj)), PSs (X.suite a pn) (b0 :: su) (ts a cls d)) :
    PS X (.Try body [.ExceptHandler (some (.Name x np)) (some n) (b0 :: su) pos'] [] [] pos) (fun D σ H => tb (wAsT X.K c i ts Wo D) D σ H) := by
  refine ⟨fun pins s σ H D I h => ?_⟩
  have ok := I.ok
  have hfr : X.A.frames = some (X.env :: X.outer) := by
    rw [ok.frames, hs]
  have hloc : Loc X.env.scope n := Or.inl hln
  refine wpAny_Try_except ?_
  refine wpAny_mono ((hb (wAsT X.K c i ts Wo D) (X.pn ++ pins) (fun e s1 => wpAny (model X.prog X.w) X.A (noteFrame e X.env) (fun _ s2 => wpAny (model X.prog X.w) X.A (setFlight e none)
      (fun _ s3 => wpAny (model X.prog X.w) X.A (handleBy e X.env [.ExceptHandler (some (.Name x np)) (some n) (b0 :: su) pos']) (SP X pins D) X.xe s3) X.xe s2) X.xe s1) (fun u s' xx => ?_) PassesOwn.looking).run [] s σ H D (I.toTry _) h)
    (fun fl s1 q => ?_) (fun e s1 q => q)
  · obtain ⟨a, B, sI, pins', σ1, H1, cls, d, rfl, J', nb, up, sky, na, os, ag, b, hb1, hyes, hno⟩ := xx
    have J : Inv X pins σ1 H1 sI := J'.ofTry ok
    rw [hs] at sky
    show wpAny (model X.prog X.w) X.A (noteFrame (.ref a) X.env) _ _ _
    refine Sky.land Zc.steady hfr hf sky fun h3 fl3 up3 => ?_
    have J3 : Inv X pins σ1 H1 { s' with heap := h3 } := J.landed nb fl3.1 (up.trans up3) os ag
    obtain ⟨oe3, vs3, he3, hz3, hd3⟩ := fl3.there
    have off : ∀ {hh : Heap} {o : Obj} {vs : Array Value}, hh.FunFrames B (X.env :: X.outer) → hh.get? a = some o → o.data = .fields vs → a ∉ frs (X.env :: X.outer) := fun {hh o vs} ff e dd hm => by
      obtain ⟨_, o2, e2, hnf⟩ := ff.mem hm
      rw [e] at e2
      cases e2
      exact hnf _ dd
    have nfr := off fl3.2.2.1 he3 hd3
    have aF : a ∉ X.fs := fun hm => by
      obtain ⟨ev, hev, q⟩ := List.mem_filterMap.mp hm
      exact nfr (List.mem_filterMap.mpr ⟨ev, List.mem_cons_of_mem _ hev, q⟩)
    have aI : sI.heap.get? a = none := by
      cases q : sI.heap.get? a with
      | none => rfl
      | some o =>
        have z := nb a o q (by rw [hs]; exact nfr)
        rw [fl3.2.1] at z
        cases z
    have a0 : X.s_0.heap.get? a = none := by
      cases q : X.s_0.heap.get? a with
      | none => rfl
      | some o =>
        obtain ⟨o2, q2⟩ := J.base.there a o q (by rw [hex]; exact fun z => nomatch z)
        rw [aI] at q2
        cases q2
    have pI : ∀ p ∈ X.pn ++ pins, p.1 ≠ a := fun p hp z => by
      have q := (J.pin p hp).1
      rw [z, aI] at q
      cases q
    have told : ∀ {hh : Heap}, HandSPX.FlyingZ B (X.env :: X.outer) a (Zc cls d) hh → sI.heap.UpToSlots hh → Inv X pins σ1 (upd H1 a (ErrO cls d a)) { s' with heap := hh } := fun {hh} fl up' => by
      obtain ⟨oe, vs, he, hz, hd⟩ := fl.there
      exact inv_told (J.landed nb fl.1 up' os ag) he hd a0 na pI aF (errO_ok he hz hd)
    have S3 := suite_in (a := a) (told fl3 (up.trans up3))
    refine wpAny_handleBy_cons (codeAny_handlers_test ?_) (by intro q; cases q)
    have LT : PySem.W.Looks (model X.prog X.w) h3 (typeOf (.ref a)) cls := fun A Q E s k q => wpAny_typeOf_ref (k _ _ he3) (by rw [hz3.1]; exact q)
    have LM := PySem.W.exm_one (M := model X.prog X.w) J3.kIn LT hb1
    have test : ∀ {Q : Value → Shared → Prop} {E : Value → Shared → Prop}, Q c { s' with heap := h3 } → wpAny (model X.prog X.w) (X.A.mark (some (.ref a))) (eval (.Name x np) X.env) Q E { s' with heap := h3 } := fun {Q E} q => by
      obtain ⟨hg, hdb, hm | ⟨hm, hv, hnn⟩⟩ := hc
      · exact ld_glob (X := X.suite a (X.pn ++ pins)) S3 hg hm q hdb
      · exact ld_blt (X := X.suite a (X.pn ++ pins)) S3 hg hm hv q hnn hdb
    refine test (LM.here ?_)
    cases b with
    | true =>
      refine codeAny_handlers_suite_as ?_
      refine HandSPX.lands_againZ fl3 fun h4 fl4 up4 => ?_
      have S4 := suite_in (a := a) (told fl4 ((up.trans up3).trans up4))
      refine store_ok (X := X.suite a (X.pn ++ pins)) (v := .ref a) S4 hN hi hloc rfl (fun s5 S5 => ?_) (.inr hln)
      refine wpAny_mono ((hsu a cls d (X.pn ++ pins)).run [] s5 _ _ _ S5 (hyes rfl a na)) (fun fl s6 hq => ?_) (fun _ _ z => z.elim)
      have fin : ∀ {σ6 : L2.St} {H6 : Hp} {Q : Shared → Prop}, Inv (X.suite a (X.pn ++ pins)) [] σ6 H6 s6 → (∀ s7, Inv X pins (σ6.set i none) H6 s7 → Q s7) →
          wpAny (model X.prog X.w) X.A (do bindName X.env n .none; unbindBehindTheSuite X.env n pos') (fun _ s7 => Q s7) X.xe s6 := fun {σ6 H6 Q} S6 hq => gone_ok (suite_out S6 ok) hN hi hln hq
      cases fl with
      | next =>
        obtain ⟨σ6, H6, S6, q6⟩ := hq
        exact fin S6 fun s7 J7 => ⟨_, _, J7, q6⟩
      | brk =>
        obtain ⟨σ6, H6, S6, q6⟩ := hq
        exact fin S6 fun s7 J7 => ⟨_, _, J7, q6⟩
      | cont =>
        obtain ⟨σ6, H6, S6, q6⟩ := hq
        exact fin S6 fun s7 J7 => ⟨_, _, J7, q6⟩
      | ret u =>
        obtain ⟨v6, σ6, H6, S6, r6, q6⟩ := hq
        exact fin S6 fun s7 J7 => ⟨_, _, _, J7, r6, q6⟩
    | false =>
      show wpAny _ X.A (handleBy (.ref a) X.env []) _ _ _
      refine wpAny_handleBy_nil ?_
      obtain ⟨_, _, _, oe, vs, T, oT, ts', he, hz, hd, h1, hr⟩ := id fl3
      unfold PySem.passOn
      refine wpAny_bind (wpAny_field he hd h1 ?_)
      rw [if_neg (show ¬ ((Value.ref T == Value.none) = true) from by simp)]
      have fin : wpAny (model X.prog X.w) X.A (setFlight (.ref a) X.env.frame) (fun _ s4 => wpAny (model X.prog X.w) X.A (throw (.ref a) : Sem Flow) (SP X pins D) X.xe s4) X.xe { s' with heap := h3 } := by
        rw [hf]
        refine HandSPX.setFlight_upZ fl3 fun h4 hh4 up4 => wpAny_throw (tk _ _ ?_)
        exact ⟨a, B, sI, pins, σ1, H1, cls, d, rfl, J, nb, (up.trans up3).trans up4, .inr (.inr (by rw [hs]; exact hh4)), na, os, ag, hno rfl⟩
      first
        | exact wpAny_bind (wpAny_pure (wpAny_bind fin))
        | exact wpAny_bind fin
  · cases fl with
    | next =>
      obtain ⟨σ1, H1, J1, q1⟩ := q
      exact wpAny_execs_nil ⟨σ1, H1, J1.ofTry ok, q1⟩
    | brk =>
      obtain ⟨σ1, H1, J1, q1⟩ := q
      exact ⟨σ1, H1, J1.ofTry ok, q1⟩
    | cont =>
      obtain ⟨σ1, H1, J1, q1⟩ := q
      exact ⟨σ1, H1, J1.ofTry ok, q1⟩
    | ret u =>
      obtain ⟨v, σ1, H1, J1, r1, q1⟩ := q
      exact ⟨v, σ1, H1, J1.ofTry ok, r1, q1⟩
end
end Pv
end

section
set_option Elab.async false
set_option linter.all false
set_option maxRecDepth 100000
set_option maxHeartbeats 4000000
/-! plain values, outcomes, the small language and what it means -/
namespace Pv
open PySem
/-- plain values -/
inductive D where
  | non | bl (b : Bool) | int (i : Int) | str (s : Str)
  | tup (xs : List D) | lst (xs : List D)
  | ty (n : String) | cls (c : Nat) | err (c : Nat) (x : Option D)
  | lam (fid b : Nat) | draw | scr (ns : List Int)
/-- the source of draws -/
structure DS where
  large : List Int
  cells : List Int
  rest : Int
  turn : Int
abbrev S0 := Option DS
inductive Out (α : Type) where
  | ok (a : α) (t : S0)
  | exc (c : Nat) (x : Option D) (t : S0)
  | bad
/-- state-passing with errors -/
def M (α : Type) := S0 → Out α
namespace M
def ret {α : Type} (a : α) : M α := fun t => .ok a t
def bind {α β : Type} (m : M α) (f : α → M β) : M β := fun t => match m t with
  | .ok a t' => f a t'
  | .exc c x t' => .exc c x t'
  | .bad => .bad
def fail {α : Type} : M α := fun _ => .bad
/-- by the state -/
def st {α : Type} (f : S0 → Out α) : M α := f
def raise {α : Type} (c : Nat) (x : Option D) : M α := fun t => .exc c x t
def opt {α : Type} (o : Option α) : M α := match o with
  | some a => ret a
  | none => fail
end M
instance : Monad M where
  pure := M.ret
  bind := M.bind
theorem bind_ok {α β : Type} {m : M α} {f : α → M β} {a : α} {t t' : S0} (h : m t = .ok a t') : (m >>= f) t = f a t' := by
  show M.bind m f t = _
  unfold M.bind
  rw [h]
theorem bind_exc {α β : Type} {m : M α} {f : α → M β} {c : Nat} {x : Option D} {t t' : S0} (h : m t = .exc c x t') : (m >>= f) t = .exc c x t' := by
  show M.bind m f t = _
  unfold M.bind
  rw [h]
theorem bind_bad {α β : Type} {m : M α} {f : α → M β} {t : S0} (h : m t = .bad) : (m >>= f) t = .bad := by
  show M.bind m f t = _
  unfold M.bind
  rw [h]
@[simp] theorem pure_run {α : Type} (a : α) (t : S0) : (pure a : M α) t = .ok a t := rfl
@[simp] theorem ret_run {α : Type} (a : α) (t : S0) : (M.ret a) t = .ok a t := rfl

/-! as the kit's data -/
mutual
def D.py : D → Option PyData
  | .non => some .none
  | .bl b => some (.bool b)
  | .int i => some (.int i)
  | .str s => some (.str s)
  | .tup xs => (D.pys xs).map .tuple
  | .lst xs => (D.pys xs).map .list
  | _ => none
def D.pys : List D → Option (List PyData)
  | [] => some []
  | x :: xs => (D.py x).bind fun a => (D.pys xs).map (a :: ·)
end

inductive Slot where
  | un
  | pl (d : D)
  | own (xs : List D)
abbrev Env1 := List Slot

/-- operators by values -/
inductive Bop | add | sub | mul | mod | fdiv | pow
inductive Cop | eq | ne | lt | le | gt | ge | isin | notin | isN | notN
/-- built-in functions and types -/
inductive Bn | len | abs | int | str | repr | tuple | list | min2 | max2 | isi | gcd
/-- methods of built-in types -/
inductive Mn | isalpha | isdigit | join
end Pv
namespace Pv
open PySem
/-! ### by values -/
def isInt64 (i : Int) : Bool := decide (-(2 ^ 64) < i) && decide (i < 2 ^ 64)
def mulOk (i j : Int) : Bool := isInt64 i || (isInt64 j || decide (i.natAbs.log2 + j.natAbs.log2 < 1000000))
def vbin : Bop → D → D → Option D
  | .add, .int i, .int j => some (.int (i + j))
  | .add, .str a, .str b => if a.length + b.length ≤ sizeLine then some (.str (a ++ b)) else none
  | .add, .lst a, .lst b => if a.length + b.length ≤ sizeLine then some (.lst (a ++ b)) else none
  | .add, .tup a, .tup b => if a.length + b.length ≤ sizeLine then some (.tup (a ++ b)) else none
  | .sub, .int i, .int j => some (.int (i - j))
  | .mul, .int i, .int j => if mulOk i j then some (.int (i * j)) else none
  | .mul, .str a, .int j => if decide (j < 2 ^ 62) && (decide (-(2 ^ 62) < j) && decide (a.length * j.toNat ≤ 1000000)) then some (.str ⟨(List.replicate j.toNat a.cps.toList).flatten.toArray⟩) else none
  | .mod, .int i, .int j => if 0 < j then some (.int (i % j)) else none
  | .fdiv, .int i, .int j => if decide (0 < j) && decide (j.natAbs.log2 < 9000) then some (.int (i / j)) else none
  | .pow, .int i, .int j => if decide (0 ≤ j) && (decide (j ≤ 1000000) && decide (i.natAbs < 2 ^ 64)) then some (.int (i ^ j.toNat)) else none
  | _, _, _ => none
def shapedD (d : D) : Option PyData := d.py.bind fun p => if SeqAt.shaped p then some p else none
def oneSign (s : Str) : Option Nat := match s.cps.toList with
  | [c] => some c
  | _ => none
def flatD : D → Bool
  | .non | .bl _ | .int _ | .str _ => true
  | _ => false
def isNon : D → Bool
  | .non => true
  | _ => false
def vcmp : Cop → D → D → Option Bool
  | .eq, a, b => (shapedD a).bind fun p => (shapedD b).map fun q => PyData.eqv p q
  | .ne, a, b => (shapedD a).bind fun p => (shapedD b).map fun q => !PyData.eqv p q
  | .lt, .int i, .int j => some (decide (i < j))
  | .le, .int i, .int j => some (decide (i ≤ j))
  | .gt, .int i, .int j => some (decide (j < i))
  | .ge, .int i, .int j => some (decide (j ≤ i))
  | .isin, .str s, .str z => (oneSign s).map fun c => decide (c ∈ z.cps.toList)
  | .notin, .str s, .str z => (oneSign s).map fun c => !decide (c ∈ z.cps.toList)
  | .isN, a, .non => some (isNon a)
  | .notN, a, .non => some (!isNon a)
  | _, _, _ => none
def vbool : D → Option Bool
  | .bl b => some b
  | _ => none
def vix : D → D → Option D
  | .lst xs, .int i => L2.atI xs i
  | .tup xs, .int i => L2.atI xs i
  | .str s, .int i => if s.length ≤ sizeLine then (L2.atI s.cps.toList i).map fun c => .str ⟨#[c]⟩ else none
  | _, _ => none
def cutD (xs : List D) (lo hi : Option Int) : List D := (xs.drop (HT.sIx xs.length 0 lo)).take (HT.sIx xs.length xs.length hi - HT.sIx xs.length 0 lo)
def vslice (a : D) (lo hi : Option Int) : Option D := match a with
  | .lst xs => some (.lst (cutD xs lo hi))
  | .tup xs => some (.tup (cutD xs lo hi))
  | .str s => if s.length ≤ sizeLine then some (.str (L2.cutS s lo hi)) else none
  | _ => none
/-- the name of a value's kind -/
def kindD : D → Option String
  | .non => some "NoneType"
  | .bl _ => some "bool"
  | .int _ => some "int"
  | .str _ => some "str"
  | .tup _ => some "tuple"
  | .lst _ => some "list"
  | _ => none
def strs? : List D → Option (List Str)
  | [] => some []
  | .str s :: r => (strs? r).map (s :: ·)
  | _ => none
def vbi (sub : Nat → Nat → Option Bool) : Bn → List D → Option D
  | .len, [.str s] => if s.length ≤ sizeLine then some (.int s.length) else none
  | .len, [.scr xs] => some (.int xs.length)
  | .len, [.lst xs] => some (.int xs.length)
  | .len, [.tup xs] => some (.int xs.length)
  | .abs, [.int i] => some (.int (if i < 0 then -i else i))
  | .int, [.int i] => some (.int i)
  | .int, [.bl b] => some (.int (if b then 1 else 0))
  | .str, [.int i] => if i.natAbs.log2 < 1920 then some (.str (toString i)) else none
  | .repr, [a] => (shapedD a).bind fun p => if p.showable && (decide (p.depth ≤ 64) && decide (p.shown.length ≤ sizeLine)) then some (.str p.shown) else none
  | .tuple, [.lst xs] => some (.tup xs)
  | .tuple, [.tup xs] => some (.tup xs)
  | .list, [.lst xs] => some (.lst xs)
  | .list, [.tup xs] => some (.lst xs)
  | .list, [.str s] => if s.length ≤ sizeLine then some (.lst (s.cps.toList.map fun c => .str ⟨#[c]⟩)) else none
  | .min2, [.int i, .int j] => some (.int (if j < i then j else i))
  | .max2, [.int i, .int j] => some (.int (if j > i then j else i))
  | .isi, [.err c _, .cls k] => (sub c k).map .bl
  | .isi, [a, .cls _] => (kindD a).map fun _ => .bl false
  | .isi, [a, .ty n] => (kindD a).bind fun m => (L2.kitB m n).map .bl
  | .gcd, [.int i, .int j] => some (.int (Int.gcd i j))
  | _, _ => none
def vme : Mn → D → List D → Option D
  | .isalpha, .str s, [] => some (.bl (Txt.isalpha s))
  | .isdigit, .str s, [] => some (.bl (Txt.isdigit s))
  | .join, .str s, [.lst xs] => (strs? xs).bind fun ys => if (ys.map (·.length)).sum + ys.length * s.length ≤ 16777216 then some (.str (Txt.join s ys)) else none
  | .join, .str s, [.tup xs] => (strs? xs).bind fun ys => if (ys.map (·.length)).sum + ys.length * s.length ≤ 16777216 then some (.str (Txt.join s ys)) else none
  | _, _, _ => none
end Pv
namespace Pv
open PySem
/-! ### the draws -/
def absI (i : Int) : Int := if i < 0 then -i else i
def DS.begun (ns : List Int) : DS := ⟨(ns.filter fun c => decide (10 ^ 18 ≤ absI c)).map fun c => absI c - 10 ^ 18, ns.map absI, 0, 0⟩
def popz : List Int → Int × List Int
  | [] => (0, [])
  | x :: r => if x = 0 then popz r else (x, r)
def stir (cells : List Int) (laps prime : Int) : Int := cells.foldl (fun st c => (st * 48271 + c + 5) % prime) ((laps * 69621 + prime / 13) % prime)
def blendI (cells : List Int) (laps : Int) : Int := [2147483629, 2147483587, 2147483579].foldl (fun found prime => found * 2147483647 + stir cells laps prime ^ 5 % prime) 0
def DS.take (s : DS) (size : Int) : Option (Int × DS) :=
  if decide (0 < size) && decide (size.natAbs.log2 < 9000) then
    let (r, l) := if s.rest = 0 then popz s.large else (s.rest, s.large)
    let (q, u) := if r = 0 then (blendI s.cells (s.turn + 1), s.turn + 1) else (r, s.turn)
    some (q % size, ⟨l, s.cells, q / size, u⟩)
  else none

/-! ### programs: what a text means, in combinators -/
mutual
/-- no lambda of a frame from n on -/
def noLam (n : Nat) : D → Bool
  | .lam f _ => decide (f < n)
  | .tup xs => noLams n xs
  | .lst xs => noLams n xs
  | .err _ (some x) => noLam n x
  | _ => true
def noLams (n : Nat) : List D → Bool
  | [] => true
  | x :: r => noLam n x && noLams n r
end
/-- what a body may ask for: the bound of whiles, which error class is below which, calls, lambdas, whether this def makes lambdas, the frames that do -/
structure Ctx where
  n : Nat
  sub : Nat → Nat → Option Bool
  call : Nat → List Env1 → List D → M D
  lamc : Nat → Nat → List Env1 → M D
  fl : Bool
  fs : List Env1
def Ctx.now (c : Ctx) (ρ : Env1) : List Env1 := if c.fl then c.fs ++ [ρ] else c.fs
inductive Fl where
  | nx (ρ : Env1) | rt (d : D) | bk (ρ : Env1) | ct (ρ : Env1)
abbrev CE := Ctx → Env1 → M D
abbrev CL := Ctx → Env1 → M (List D)
abbrev CO := Ctx → Env1 → M (Option Int)
abbrev CS := Ctx → Env1 → M Fl
inductive FnD where
  | code (np ns : Nat) (flag : Bool) (b : CS)
structure Prog where
  fns : Nat → Option FnD
  lams : Nat → Option (List Nat × CE)
  sub : Nat → Nat → Option Bool

def wipeE (ρ : Env1) : List Nat → Env1
  | [] => ρ
  | i :: r => (wipeE ρ r).set i .un
def setAll (ρ : Env1) : List Nat → List D → Option Env1
  | [], [] => some ρ
  | i :: r, x :: xs => setAll (ρ.set i (.pl x)) r xs
  | _, _ => none
def seqD : D → Option (List D)
  | .lst xs => some xs
  | .tup xs => some xs
  | .scr ns => some (ns.map .int)
  | _ => none
/-- targets: a name, names of a tuple -/
inductive Tg where
  | name (i : Nat)
  | names (is : List Nat)
def bindTg (tg : Tg) (x : D) (ρ : Env1) : Option Env1 := match tg with
  | .name i => some (ρ.set i (.pl x))
  | .names is => match x with
    | .tup xs => setAll ρ is xs
    | _ => none
/-- no lambda at all -/
def cleanS : Slot → Slot
  | .pl d => if noLam 0 d then .pl d else .un
  | _ => .un
/-- an error may not leave -/
def nx {α : Type} (m : M α) : M α := fun t => match m t with
  | .exc _ _ _ => .bad
  | o => o
def mloop (f : D → List D → M (List D)) : List D → List D → M (List D)
  | [], acc => pure acc
  | x :: r, acc => f x acc >>= mloop f r
def vb (x : D) : M Bool := M.opt (vbool x)

/-! expressions -/
def eVar (i : Nat) : CE := fun _ ρ => match ρ[i]? with
  | some (.pl d) => pure d
  | _ => M.fail
/-- a list of one's own, read -/
def eOwn (i : Nat) : CE := fun _ ρ => match ρ[i]? with
  | some (.own xs) => pure (.lst xs)
  | _ => M.fail
def eK (d : D) : CE := fun _ _ => pure d
def eBin (op : Bop) (a b : CE) : CE := fun c ρ => a c ρ >>= fun x => b c ρ >>= fun y => M.opt (vbin op x y)
def eNeg (a : CE) : CE := fun c ρ => a c ρ >>= fun x => match x with
  | .int i => pure (.int (-i))
  | _ => M.fail
def eNot (a : CE) : CE := fun c ρ => a c ρ >>= fun x => vb x >>= fun t => pure (.bl (!t))
def eAnd (a b : CE) : CE := fun c ρ => a c ρ >>= fun x => vb x >>= fun t => if t then b c ρ else pure (.bl false)
def eOr (a b : CE) : CE := fun c ρ => a c ρ >>= fun x => vb x >>= fun t => if t then pure (.bl true) else b c ρ
def eCmp (op : Cop) (a b : CE) : CE := fun c ρ => a c ρ >>= fun x => b c ρ >>= fun y => M.opt (vcmp op x y) >>= fun t => pure (.bl t)
def eChain (o1 o2 : Cop) (a b d : CE) : CE := fun c ρ => a c ρ >>= fun x => b c ρ >>= fun y => M.opt (vcmp o1 x y) >>= fun t =>
  if t then d c ρ >>= fun z => M.opt (vcmp o2 y z) >>= fun u => pure (.bl u) else pure (.bl false)
def eIf (t a b : CE) : CE := fun c ρ => t c ρ >>= fun x => vb x >>= fun t => if t then a c ρ else b c ρ
def lNil : CL := fun _ _ => pure []
def lCons (e : CE) (r : CL) : CL := fun c ρ => e c ρ >>= fun x => r c ρ >>= fun xs => pure (x :: xs)
def eTup (es : CL) : CE := fun c ρ => es c ρ >>= fun xs => if xs.length ≤ 1000 then pure (.tup xs) else M.fail
def eLst (es : CL) : CE := fun c ρ => es c ρ >>= fun xs => if xs.length ≤ 1000 then pure (.lst xs) else M.fail
def eIx (a i : CE) : CE := fun c ρ => a c ρ >>= fun x => i c ρ >>= fun y => M.opt (vix x y)
def oNone : CO := fun _ _ => pure none
def oSome (e : CE) : CO := fun c ρ => e c ρ >>= fun x => match x with
  | .int i => pure (some i)
  | _ => M.fail
def eSlice (a : CE) (lo hi : CO) : CE := fun c ρ => a c ρ >>= fun x => lo c ρ >>= fun l => hi c ρ >>= fun h => M.opt (vslice x l h)
def eCall (f : Nat) (es : CL) : CE := fun c ρ => es c ρ >>= fun xs => c.call f (c.now ρ) xs
def eBi (b : Bn) (es : CL) : CE := fun c ρ => es c ρ >>= fun xs => M.opt (vbi c.sub b xs)
def isStrD : D → Bool
  | .str _ => true
  | _ => false
def eMe (m : Mn) (o : CE) (es : CL) : CE := fun c ρ => o c ρ >>= fun x => if isStrD x then es c ρ >>= fun xs => M.opt (vme m x xs) else M.fail
def eComp (own : List Nat) (tg : Tg) (it : CL) (test el : CE) : CE := fun c ρ => it c ρ >>= fun xs =>
  if noLams 0 xs then mloop (fun x acc => M.opt (bindTg tg x (wipeE (ρ.map cleanS) own)) >>= fun ρ1 =>
    nx (test { c with fl := false, fs := [] } ρ1 >>= vb) >>= fun t => if t then nx (el { c with fl := false, fs := [] } ρ1) >>= fun y => if acc.length < sizeLine then pure (acc ++ [y]) else M.fail else pure acc) xs [] >>= fun ys => pure (.lst ys)
  else M.fail
def eLam (b : Nat) : CE := fun c _ => if c.fl then pure (.lam c.fs.length b) else M.fail
def eCallv (i : Nat) : CE := fun c ρ => match ρ[i]? with
  | some (.pl (.lam f b)) => c.lamc f b (c.now ρ)
  | _ => M.fail
/-- the field of an error of one of the classes cs -/
def eAttr (cs : List Nat) (a : CE) : CE := fun c ρ => a c ρ >>= fun x => match x with
  | .err k (some y) => if cs.contains k then pure y else M.fail
  | _ => M.fail
def iOver (e : CE) : CL := fun c ρ => e c ρ >>= fun x => M.opt (seqD x)
def iRange (e : CE) : CL := fun c ρ => e c ρ >>= fun x => match x with
  | .int j => if decide (-(2 ^ 62) ≤ j) && decide (j < 2 ^ 62) then pure ((List.range j.toNat).map fun (k : Nat) => .int (k : Int)) else M.fail
  | _ => M.fail
def iZip (a b : CE) : CL := fun c ρ => a c ρ >>= fun x => b c ρ >>= fun y => match x, y with
  | .lst xs, .lst ys => pure ((xs.zip ys).map fun p => .tup [p.1, p.2])
  | .tup xs, .tup ys => pure ((xs.zip ys).map fun p => .tup [p.1, p.2])
  | _, _ => M.fail

/-! statements -/
/-- a while: at most n turns -/
def wloop (t : Env1 → M Bool) (b : Env1 → M Fl) : Nat → Env1 → M Fl
  | 0, _ => M.fail
  | n + 1, ρ => t ρ >>= fun c => if c then b ρ >>= fun r => match r with
      | .nx ρ' => wloop t b n ρ'
      | .ct ρ' => wloop t b n ρ'
      | .bk ρ' => pure (.nx ρ')
      | .rt d => pure (.rt d)
    else pure (.nx ρ)
def floop (tg : Tg) (b : Env1 → M Fl) : List D → Env1 → M Fl
  | [], ρ => pure (.nx ρ)
  | x :: r, ρ => M.opt (bindTg tg x ρ) >>= fun ρ1 => b ρ1 >>= fun q => match q with
      | .nx ρ' => floop tg b r ρ'
      | .ct ρ' => floop tg b r ρ'
      | .bk ρ' => pure (.nx ρ')
      | .rt d => pure (.rt d)
def sExpr (e : CE) : CS := fun c ρ => e c ρ >>= fun _ => pure (.nx ρ)
def sAsg (i : Nat) (e : CE) : CS := fun c ρ => e c ρ >>= fun x => pure (.nx (ρ.set i (.pl x)))
def sUnpack (is : List Nat) (e : CE) : CS := fun c ρ => e c ρ >>= fun x => match x with
  | .tup xs => M.opt (setAll ρ is xs) >>= fun ρ' => pure (.nx ρ')
  | _ => M.fail
/-- an item of a parallel assignment: a value, or a new empty list of one's own -/
inductive PI1 where
  | e (m : CE)
  | nil
def PI1.run (c : Ctx) (ρ : Env1) : PI1 → M Slot
  | .e m => m c ρ >>= fun x => pure (.pl x)
  | .nil => pure (.own [])
def runs1 (c : Ctx) (ρ : Env1) : List PI1 → M (List Slot)
  | [] => pure []
  | p :: r => p.run c ρ >>= fun s => runs1 c ρ r >>= fun ss => pure (s :: ss)
def setSl (ρ : Env1) : List Nat → List Slot → Env1
  | i :: r, s :: ss => setSl (ρ.set i s) r ss
  | _, _ => ρ
def sPar (is : List Nat) (ps : List PI1) : CS := fun c ρ => runs1 c ρ ps >>= fun ss => pure (.nx (setSl ρ is ss))
def vaug : Bop → D → D → Option D
  | .add, .int i, .int j => some (.int (i + j))
  | .add, .str a, .str b => if a.length + b.length ≤ sizeLine then some (.str (a ++ b)) else none
  | .sub, .int i, .int j => some (.int (i - j))
  | .mul, .int i, .int j => if isInt64 i || isInt64 j then some (.int (i * j)) else none
  | _, _, _ => none
def sAug (i : Nat) (op : Bop) (e : CE) : CS := fun c ρ => match ρ[i]? with
  | some (.pl x) => e c ρ >>= fun y => M.opt (vaug op x y) >>= fun z => pure (.nx (ρ.set i (.pl z)))
  | _ => M.fail
/-- from here on the list never changes -/
def sFreeze (i : Nat) : CS := fun _ ρ => match ρ[i]? with
  | some (.own xs) => pure (.nx (ρ.set i (.pl (.lst xs))))
  | _ => M.fail
def sApp (i : Nat) (e : CE) : CS := fun c ρ => match ρ[i]? with
  | some (.own xs) => e c ρ >>= fun y => if xs.length < sizeLine then pure (.nx (ρ.set i (.own (xs ++ [y])))) else M.fail
  | _ => M.fail
def sRet (e : CE) : CS := fun c ρ => e c ρ >>= fun x => pure (.rt x)
def sIf (t : CE) (a b : CS) : CS := fun c ρ => t c ρ >>= fun x => vb x >>= fun t => if t then a c ρ else b c ρ
def sWhile (t : CE) (b : CS) : CS := fun c ρ => wloop (fun ρ' => t c ρ' >>= vb) (fun ρ' => b c ρ') c.n ρ
def sFor (tg : Tg) (it : CL) (b : CS) : CS := fun c ρ => it c ρ >>= fun xs => floop tg (fun ρ' => b c ρ') xs ρ
def sBrk : CS := fun _ ρ => pure (.bk ρ)
def sCont : CS := fun _ ρ => pure (.ct ρ)
def sPass : CS := fun _ ρ => pure (.nx ρ)
def sRaise0 (k : Nat) : CS := fun _ _ => M.raise k none
def sRaise (k : Nat) (e : CE) : CS := fun c ρ => e c ρ >>= fun x => M.raise k (some x)
def sSeq (s r : CS) : CS := fun c ρ => s c ρ >>= fun q => match q with
  | .nx ρ' => r c ρ'
  | o => pure o
/-- try: e; except K as i: j = i -/
def sTry (e : CE) (k i j : Nat) : CS := fun c ρ => M.st fun t => match e c ρ t with
  | .ok _ t' => .ok (.nx ρ) t'
  | .exc q x t' => match c.sub q k with
    | some true => if i < ρ.length then .ok (.nx (((ρ.set i (.pl (.err q x))).set j (.pl (.err q x))).set i .un)) t' else .bad
    | some false => .exc q x t'
    | none => .bad
  | .bad => .bad
/-! the source of draws, as the law's first lines use it -/
/-- draw['rest'], draw['turn'] -/
def eDr (rest : Bool) (i : Nat) : CE := fun _ ρ => M.st fun t => match ρ[i]?, t with
  | some (.pl .draw), some s => .ok (.int (if rest then s.rest else s.turn)) (some s)
  | _, _ => .bad
/-- draw['large'] != [] -/
def eLargeNe (i : Nat) : CE := fun _ ρ => M.st fun t => match ρ[i]?, t with
  | some (.pl .draw), some s => .ok (.bl (!s.large.isEmpty)) (some s)
  | _, _ => .bad
def eCells (i : Nat) : CE := fun _ ρ => M.st fun t => match ρ[i]?, t with
  | some (.pl .draw), some s => .ok (.lst (s.cells.map .int)) (some s)
  | _, _ => .bad
/-- draw['large'].pop(0) -/
def ePop (i : Nat) : CE := fun _ ρ => M.st fun t => match ρ[i]?, t with
  | some (.pl .draw), some s => match s.large with
    | x :: r => .ok (.int x) (some { s with large := r })
    | [] => .bad
  | _, _ => .bad
def sDr (rest : Bool) (i : Nat) (e : CE) : CS := fun c ρ => e c ρ >>= fun x => M.st fun t => match x, ρ[i]?, t with
  | .int z, some (.pl .draw), some s => .ok (.nx ρ) (some (if rest then { s with rest := z } else { s with turn := z }))
  | _, _, _ => .bad
def ints? : List D → Option (List Int)
  | [] => some []
  | .int i :: r => (ints? r).map (i :: ·)
  | _ => none
/-- return {'large': .., 'cells': .., 'rest': 0, 'turn': 0} -/
def sBegun (i : Nat) (e : CE) : CS := fun c ρ => match ρ[i]? with
  | some (.own xs) => e c ρ >>= fun y => M.st fun t => match y, t with
    | .lst ys, none => match ints? xs, ints? ys with
      | some a, some b => .ok (.rt .draw) (some ⟨a, b, 0, 0⟩)
      | _, _ => .bad
    | _, _ => .bad
  | _ => M.fail
/-- a new list of one's own -/
def sAsgOwn (i : Nat) (e : CE) : CS := fun c ρ => e c ρ >>= fun x => match x with
  | .lst xs => pure (.nx (ρ.set i (.own xs)))
  | _ => M.fail
def startE (ns : Nat) (args : List D) : Env1 := args.map Slot.pl ++ List.replicate (ns - args.length) .un
/-- what a lambda sees of its maker's slot -/
def capS (ρ : Env1) (j : Nat) : Slot := match ρ[j]? with
  | some (.pl d) => .pl d
  | _ => .un
def rtD : Fl → M D
  | .rt d => pure d
  | .nx _ => pure .non
  | _ => M.fail
def noLamO (n : Nat) : Option D → Bool
  | some y => noLam n y
  | none => true
/-- what leaves a def holds no lambda of its own frame -/
def outD (fl : Bool) (n : Nat) (m : M D) : M D := fun t => match m t with
  | .ok d t' => if fl then (if noLam n d then .ok d t' else .bad) else .ok d t'
  | .exc c x t' => if fl then (if noLamO n x then .exc c x t' else .bad) else .exc c x t'
  | .bad => .bad
abbrev Lvl := (Nat → List Env1 → List D → M D) × (Nat → Nat → List Env1 → M D)
def ctxOf (P : Prog) (n : Nat) (b : Lvl) (fl : Bool) (fs : List Env1) : Ctx := ⟨n, P.sub, b.1, b.2, fl, fs⟩
/-- a call at depth k: defs; lambdas -/
def run (P : Prog) (n : Nat) : Nat → Lvl
  | 0 => (fun _ _ _ => M.fail, fun _ _ _ => M.fail)
  | k + 1 =>
    (fun f fs args => match P.fns f with
      | some (.code np ns fl b) => if args.length = np then outD fl fs.length (b (ctxOf P n (run P n k) fl fs) (startE ns args) >>= rtD) else M.fail
      | none => M.fail,
     fun fid b fs => match P.lams b, fs[fid]? with
      | some (caps, e), some ρ => e (ctxOf P n (run P n k) false fs) (caps.map (capS ρ))
      | _, _ => M.fail)
theorem run_lam {P : Prog} {n k fid b : Nat} {fs : List Env1} {caps : List Nat} {e : CE} {ρ : Env1} (h1 : P.lams b = some (caps, e)) (h2 : fs[fid]? = some ρ) : (run P n (k + 1)).2 fid b fs = e (ctxOf P n (run P n k) false fs) (caps.map (capS ρ)) := by
  simp only [run, h1, h2]
theorem run_code {P : Prog} {n k f : Nat} {fs : List Env1} {args : List D} {np ns : Nat} {fl : Bool} {b : CS} (h1 : P.fns f = some (.code np ns fl b)) (h2 : args.length = np) : (run P n (k + 1)).1 f fs args = outD fl fs.length (b (ctxOf P n (run P n k) fl fs) (startE ns args) >>= rtD) := by
  simp only [run, h1, h2, if_true]
theorem run_code_ne {P : Prog} {n k f : Nat} {fs : List Env1} {args : List D} {np ns : Nat} {fl : Bool} {b : CS} (h1 : P.fns f = some (.code np ns fl b)) (h2 : args.length ≠ np) : (run P n (k + 1)).1 f fs args = M.fail := by
  simp only [run, h1, if_neg h2]
def callF (P : Prog) (n k f : Nat) (fs : List Env1) (args : List D) : M D := (run P n k).1 f fs args
end Pv
end

section
set_option Elab.async false
set_option linter.all false
set_option maxRecDepth 100000
set_option maxHeartbeats 4000000
/-! plain values and the abstract heap -/
namespace Pv
open PySem PySem.Spec PyProof.Rows L2
/-- a lambda of the text: its maker's qualified name with the rest, its parameters, body, scope -/
structure LamI where
  N : List Str
  caps : List Nat
  qual : Str
  params : Arguments
  body : Expr
  scope : Scope
/-- a frame that makes lambdas: its names, its cells -/
structure Fr1 where
  N : List Str
  cl : List (Str × Addr)
/-- how a lambda lies in its maker's frame -/
structure LamIn (l : LamI) (fr : Fr1) : Prop where
  free : ∀ y ∈ l.scope.names, y.2 = .free → ∃ c, fr.cl.lookup y.1 = some c
  caps : l.caps.map (fun j => fr.N[j]?) = l.N.map some
/-- a def: its name, address, object, parameters -/
structure FnI where
  nm : Str
  fa : Addr
  fd : FuncData
  ps : List Str
/-- what is fixed: the written part, the module's names, error classes (address, field), lambdas, tables of code objects -/
structure Gam where
  K : PySem.W.Frag
  prog : Program
  mg : Str → Option Value
  ca : Nat → Option (Addr × Option Str)
  li : Nat → Option LamI
  T : List (Addr × Str)
  fi : Nat → Option FnI
  tb : Str → Option (Addr × Addr)
/-- the addresses of the source of draws: its dict, its list of large numbers, its list of cells -/
abbrev Wd := Option (Addr × Addr × Addr)
def inW (ω : Wd) (b : Addr) : Prop := ∃ a l c, ω = some (a, l, c) ∧ (b = a ∨ b = l)
def LamO (l : LamI) (cl : List (Str × Addr)) (f c' : Addr) : HO := .ext fun h => ∃ (pm ctv : Value), h.get? f = some (PySem.W.kla_obj "<lambda>" l.qual l.params l.body l.scope (cloFrom cl l.scope.names []) pm c' ctv)
/-- a list that stays as it is -/
def SqF (H : Hp) (a : Addr) (vs : List V) : Prop := ∃ o, H a = some (.frz o (.lst vs))
theorem SqF.rd {H : Hp} {a : Addr} {vs : List V} (h : SqF H a vs) : Rd H a (.lst vs) := .inr h
/-- the script -/
def Scr (K : PySem.W.Frag) (H : Hp) (a : Addr) (vs : List V) : Prop := (∃ o, H a = some (.frz o (.lst vs))) ∨ ∀ H', SqL K H' a vs
theorem Scr.sql {K : PySem.W.Frag} {H : Hp} {a : Addr} {vs : List V} (h : Scr K H a vs) : SqL K H a vs := by
  rcases h with ⟨o, h⟩ | h
  · exact .inl (.inr ⟨o, h⟩)
  · exact h H
mutual
inductive Dv (Γ : Gam) (ω : Wd) (φ : List Fr1) (H : Hp) : D → V → Prop
  | non : Dv Γ ω φ H .non .non
  | bl (b : Bool) : Dv Γ ω φ H (.bl b) (.bl b)
  | int (i : Int) : Dv Γ ω φ H (.int i) (.int i)
  | str (s : Str) : Dv Γ ω φ H (.str s) (.str s)
  | tup {a : Addr} {vs : List V} {ds : List D} : SqT Γ.K H a vs → DvL Γ ω φ H ds vs → Dv Γ ω φ H (.tup ds) (.ref a)
  | scr {a : Addr} (ns : List Int) : Scr Γ.K H a (ns.map V.int) → Dv Γ ω φ H (.scr ns) (.ref a)
  | lst {a : Addr} {vs : List V} {ds : List D} : SqF H a vs → DvL Γ ω φ H ds vs → Dv Γ ω φ H (.lst ds) (.ref a)
  | ty (n : String) : Dv Γ ω φ H (.ty n) (.ty n)
  | cls {c : Nat} {C : Addr} {fo : Option Str} : Γ.ca c = some (C, fo) → Dv Γ ω φ H (.cls c) (.ref C)
  | err0 {c : Nat} {C a : Addr} : Γ.ca c = some (C, none) → H a = some (ErrO (.ref C) none a) → Dv Γ ω φ H (.err c none) (.ref a)
  | err1 {c : Nat} {C a dd : Addr} {f : Str} {x : D} {v : V} : Γ.ca c = some (C, some f) → H a = some (ErrO (.ref C) (some dd) a) → H dd = some (.xd [(f, v)]) → Dv Γ ω φ H x v → Dv Γ ω φ H (.err c (some x)) (.ref a)
  | lam {fid b : Nat} {fr : Fr1} {l : LamI} {f c' : Addr} : φ[fid]? = some fr → Γ.li b = some l → LamIn l fr → H f = some (LamO l fr.cl f c') → H c' = some (LamX.CodeO c' l.qual) → Dv Γ ω φ H (.lam fid b) (.ref f)
  | draw {a l c : Addr} : ω = some (a, l, c) → Dv Γ ω φ H .draw (.ref a)
inductive DvL (Γ : Gam) (ω : Wd) (φ : List Fr1) (H : Hp) : List D → List V → Prop
  | nil : DvL Γ ω φ H [] []
  | cons {d : D} {v : V} {ds : List D} {vs : List V} : Dv Γ ω φ H d v → DvL Γ ω φ H ds vs → DvL Γ ω φ H (d :: ds) (v :: vs)
end
/-- what never changes once it is told -/
def imm : HO → Bool
  | .tup _ | .frz _ _ | .xd _ | .ext _ => true
  | _ => false
def Stay (H H' : Hp) : Prop := ∀ b o, H b = some o → imm o = true → H' b = some o
theorem Stay.refl (H : Hp) : Stay H H := fun _ _ h _ => h
theorem Stay.trans {H H1 H2 : Hp} (a : Stay H H1) (b : Stay H1 H2) : Stay H H2 := fun x o h i => b x o (a x o h i) i
theorem sqT_stay {K : PySem.W.Frag} {H H' : Hp} {a : Addr} {vs : List V} (h : SqT K H a vs) (k : Stay H H') : SqT K H' a vs := by
  rcases h with (h | ⟨o, h⟩) | h
  · exact .inl (.inl (k _ _ h rfl))
  · exact .inl (.inr ⟨o, k _ _ h rfl⟩)
  · exact .inr h
theorem sqF_stay {H H' : Hp} {a : Addr} {vs : List V} (h : SqF H a vs) (k : Stay H H') : SqF H' a vs := by
  obtain ⟨o, h⟩ := h
  exact ⟨o, k _ _ h rfl⟩
theorem scr_stay {K : PySem.W.Frag} {H H' : Hp} {a : Addr} {vs : List V} (h : Scr K H a vs) (k : Stay H H') : Scr K H' a vs := by
  rcases h with ⟨o, h⟩ | h
  · exact .inl ⟨o, k _ _ h rfl⟩
  · exact .inr h
/-- the world grows once -/
def Wx (ω : Wd) (H : Hp) (ω' : Wd) : Prop := ω' = ω ∨ (ω = none ∧ ∀ b, inW ω' b → H b = none)
theorem Wx.refl (ω : Wd) (H : Hp) : Wx ω H ω := .inl rfl
theorem wd_of {ω ω' : Wd} {p : Addr × Addr × Addr} (hw : ω = none ∨ ω' = ω) (h : ω = some p) : ω' = some p := by
  rcases hw with z | z
  · rw [z] at h
    cases h
  · rw [z]
    exact h
section
variable {Γ : Gam} {ω ω' : Wd} {φ φ' : List Fr1} {H H' : Hp}
mutual
theorem Dv.mono (k : Stay H H') (hw : ω = none ∨ ω' = ω) (hφ : ∀ (i : Nat) (fr : Fr1), φ[i]? = some fr → φ'[i]? = some fr) : ∀ (d : D) (v : V), Dv Γ ω φ H d v → Dv Γ ω' φ' H' d v
  | _, _, .non => .non
  | _, _, .bl b => .bl b
  | _, _, .int i => .int i
  | _, _, .str s => .str s
  | _, _, .tup h hs => .tup (sqT_stay h k) (DvL.mono k hw hφ _ _ hs)
  | _, _, .lst h hs => .lst (sqF_stay h k) (DvL.mono k hw hφ _ _ hs)
  | _, _, .scr ns h => .scr ns (scr_stay h k)
  | _, _, .ty n => .ty n
  | _, _, .cls h => .cls h
  | _, _, .err0 h e => .err0 h (k _ _ e rfl)
  | _, _, .err1 h e e2 hx => .err1 h (k _ _ e rfl) (k _ _ e2 rfl) (Dv.mono k hw hφ _ _ hx)
  | _, _, .lam h1 h2 h3 e e2 => .lam (hφ _ _ h1) h2 h3 (k _ _ e rfl) (k _ _ e2 rfl)
  | _, _, .draw h => .draw (wd_of hw h)
theorem DvL.mono (k : Stay H H') (hw : ω = none ∨ ω' = ω) (hφ : ∀ (i : Nat) (fr : Fr1), φ[i]? = some fr → φ'[i]? = some fr) : ∀ (ds : List D) (vs : List V), DvL Γ ω φ H ds vs → DvL Γ ω' φ' H' ds vs
  | _, _, .nil => .nil
  | _, _, .cons h hs => .cons (Dv.mono k hw hφ _ _ h) (DvL.mono k hw hφ _ _ hs)
end
end
/-- all but the source of draws stays; tables of code objects grow -/
structure Keep (ω : Wd) (H H' : Hp) : Prop where
  obj : ∀ b o, H b = some o → (∀ ps, o ≠ .tbl ps) → ¬ inW ω b → H' b = some o
  tab : ∀ b ps, H b = some (.tbl ps) → ∃ more, H' b = some (.tbl (ps ++ more))
/-- the source of draws in the heap; the tables -/
structure StRel (Γ : Gam) (ω : Wd) (t : S0) (H : Hp) : Prop where
  tabs : LamX.Tabs Γ.T H
  ds : match ω, t with
    | none, none => True
    | some (a, l, c), some s => H a = some (.dK [(.inr "large", .ref l), (.inr "cells", .ref c), (.inr "rest", .int s.rest), (.inr "turn", .int s.turn)]) ∧ H l = some (.lst (s.large.map V.int)) ∧ SqF H c (s.cells.map V.int)
    | _, _ => False
theorem StRel.box {Γ : Gam} {ω : Wd} {t : S0} {H : Hp} (r : StRel Γ ω t H) {b : Addr} {o : HO} (hb : inW ω b) (e : H b = some o) : imm o = false := by
  obtain ⟨a, l, c, rfl, hb⟩ := hb
  have d := r.ds
  cases t with
  | none => exact d.elim
  | some s =>
    obtain ⟨h1, h2, _⟩ := d
    rcases hb with rfl | rfl
    · rw [h1] at e
      cases e
      rfl
    · rw [h2] at e
      cases e
      rfl
theorem Keep.stay {Γ : Gam} {ω : Wd} {t : S0} {H H' : Hp} (k : Keep ω H H') (r : StRel Γ ω t H) : Stay H H' := fun b o e i => k.obj b o e (fun ps z => by rw [z] at i; cases i) (fun hb => by
  have z := r.box hb e
  rw [i] at z
  cases z)
theorem Keep.refl (ω : Wd) (H : Hp) : Keep ω H H := ⟨fun _ _ h _ _ => h, fun _ ps h => ⟨#[], by rw [h]; simp⟩⟩
theorem Keep.trans {ω ω1 : Wd} {H H1 H2 : Hp} (a : Keep ω H H1) (hw : Wx ω H ω1) (b : Keep ω1 H1 H2) : Keep ω H H2 := by
  refine ⟨fun x o e n hx => b.obj x o (a.obj x o e n hx) n (fun z => ?_), fun x ps e => ?_⟩
  · rcases hw with rfl | ⟨_, hw⟩
    · exact hx z
    · rw [hw x z] at e
      cases e
  · obtain ⟨m1, e1⟩ := a.tab x ps e
    obtain ⟨m2, e2⟩ := b.tab x _ e1
    exact ⟨m1 ++ m2, by rw [e2, Array.append_assoc]⟩
theorem Keep.none_back {H H1 : Hp} (k : Keep none H H1) {x : Addr} (e : H1 x = none) : H x = none := by
  cases q : H x with
  | none => rfl
  | some o =>
    by_cases hn : ∀ ps, o ≠ .tbl ps
    · rw [k.obj x o q hn (fun ⟨_, _, _, z, _⟩ => by cases z)] at e
      cases e
    · obtain ⟨ps, hps⟩ := Classical.not_forall.mp hn
      have hps := Classical.not_not.mp hps
      rw [hps] at q
      obtain ⟨m, z⟩ := k.tab x ps q
      rw [z] at e
      cases e
theorem Wx.trans {ω ω1 ω2 : Wd} {H H1 : Hp} (a : Wx ω H ω1) (k : Keep ω H H1) (b : Wx ω1 H1 ω2) : Wx ω H ω2 := by
  rcases a with rfl | ⟨rfl, a⟩
  · rcases b with rfl | ⟨rfl, b⟩
    · exact .inl rfl
    · exact .inr ⟨rfl, fun x hx => k.none_back (b x hx)⟩
  · rcases b with rfl | ⟨rfl, b⟩
    · exact .inr ⟨rfl, a⟩
    · exact .inr ⟨rfl, fun x hx => k.none_back (b x hx)⟩
theorem Wx.mono {ω ω' : Wd} {H : Hp} (h : Wx ω H ω') : ω = none ∨ ω' = ω := by
  rcases h with h | ⟨h, _⟩
  · exact .inr h
  · exact .inl h
/-- a frame's slots and their plain values -/
structure Rel (Γ : Gam) (ω : Wd) (φ : List Fr1) (ω0 : Wd) (H0 : Hp) (ρ : Env1) (t : S0) (σ : L2.St) (H : Hp) : Prop where
  st : StRel Γ ω t H
  len : ρ.length = σ.length
  slot : ∀ (i : Nat) (d : D), ρ[i]? = some (.pl d) → ∃ v, σ[i]? = some (some v) ∧ Dv Γ ω φ H d v
  own : ∀ (i : Nat) (xs : List D), ρ[i]? = some (.own xs) → ∃ a vs, σ[i]? = some (some (.ref a)) ∧ H a = some (.lst vs) ∧ DvL Γ ω φ H xs vs ∧ H0 a = none ∧ ¬ inW ω a
  dist : ∀ (i j : Nat) (xs ys : List D) (a : Addr), ρ[i]? = some (.own xs) → ρ[j]? = some (.own ys) → σ[i]? = some (some (.ref a)) → σ[j]? = some (some (.ref a)) → i = j
  wx : Wx ω0 H0 ω
  keep : Keep ω0 H0 H
section
variable {Γ : Gam} {ω ω' ω0 : Wd} {φ : List Fr1} {H H' H0 : Hp} {ρ : Env1} {t t' : S0} {σ : L2.St}
theorem Rel.step (r : Rel Γ ω φ ω0 H0 ρ t σ H) (hw : Wx ω H ω') (k : Keep ω H H') (s : StRel Γ ω' t' H') : Rel Γ ω' φ ω0 H0 ρ t' σ H' := by
  have st := k.stay r.st
  refine ⟨s, r.len, fun i d e => ?_, fun i xs e => ?_, r.dist, ?_, ?_⟩
  · obtain ⟨v, e1, e2⟩ := r.slot i d e
    exact ⟨v, e1, e2.mono st hw.mono (fun _ _ h => h)⟩
  · obtain ⟨a, vs, e1, e2, e3, e4, e5⟩ := r.own i xs e
    refine ⟨a, vs, e1, k.obj _ _ e2 (fun _ z => by cases z) e5, e3.mono st hw.mono (fun _ _ h => h), e4, fun z => ?_⟩
    rcases hw with rfl | ⟨_, hw⟩
    · exact e5 z
    · rw [hw a z] at e2
      cases e2
  · exact r.wx.trans r.keep hw
  · exact r.keep.trans r.wx k
end
end Pv
end

section
set_option Elab.async false
set_option linter.all false
set_option maxRecDepth 100000
set_option maxHeartbeats 4000000
/-! promises that know the frames which make lambdas; calls of defs -/
namespace Pv
open PySem PySem.Spec PyProof.Rows L2
/-- the cells of a frame hold its slots -/
structure CellsSt (fr : Fr1) (σ : L2.St) (h : Heap) (H : Hp) : Prop where
  all : ∀ x c, fr.cl.lookup x = some c → H c = none ∧ ∃ v, h.IsCell c v
  inj : ∀ x y c, fr.cl.lookup x = some c → fr.cl.lookup y = some c → x = y
  val : ∀ (i : Nat) (x : Str) (v : V) (c : Addr), fr.N[i]? = some x → σ[i]? = some (some v) → fr.cl.lookup x = some c → ∃ u, L2.RelV v u ∧ h.IsCell c (some u)
def FrOk (G : List (Fr1 × L2.St)) (outer : List Env) (h : Heap) (H : Hp) : Prop := ∀ p ∈ G, CellsSt p.1 p.2 h H ∧ ∀ x c, p.1.cl.lookup x = some c → c ∉ frs outer
abbrev SpG := List (Fr1 × L2.St) → List V → Hp → VK → XK → Prop
structure FnG (P : Program) (w : World) (K : PySem.W.Frag) (mg : Str → Option Value) (base : Heap) (k : Nat) (f : Addr) (fd : FuncData) (ps : List Str) (sp : SpG) : Prop where
  len : ∀ G vs H Q E, sp G vs H Q E → vs.length = ps.length
  run : ∀ (A : Around) (outer : List Env) (s : Shared) (H : Hp) (args : Args) (us : List Value) (vs : List V) (Q : VK) (E : XK) (G : List (Fr1 × L2.St)), Room k A → A.guards = some [] → Env0 P w K mg base A outer s H → FrOk G outer s.heap H →
    BindsTo s fd args (ps.zip us) → Vals vs us → sp G vs H Q E → codeAny (model P w) A (.call (.ref f) args) (CR (L2.CX P w) outer P w H s Q E) s
section
variable {P : Program} {w : World} {K : PySem.W.Frag} {mg : Str → Option Value} {base : Heap} {k j : Nat} {f : Addr} {fd : FuncData} {ps : List Str}
theorem FnG.mono {sp : SpG} (F : FnG P w K mg base j f fd ps sp) (h : j ≤ k) : FnG P w K mg base k f fd ps sp := ⟨F.len, fun A outer s H args us vs Q E G hr => F.run A outer s H args us vs Q E G (hr.mono h)⟩
theorem FnG.of {sp : Sp} (F : FnOk P w K mg base (L2.CX P w) k f fd ps sp) : FnG P w K mg base k f fd ps (fun _ => sp) :=
  ⟨fun _ vs H Q E h => F.len vs H Q E h, fun A outer s H args us vs Q E _ hr _ e0 _ hb r h => F.run A outer s H args us vs Q E hr e0 hb r h⟩
theorem FnG.imp {sp sp' : SpG} (F : FnG P w K mg base k f fd ps sp) (h : ∀ G vs H Q E, sp' G vs H Q E → sp G vs H Q E) : FnG P w K mg base k f fd ps sp' :=
  ⟨fun G vs H Q E q => F.len G vs H Q E (h _ _ _ _ _ q), fun A outer s H args us vs Q E G hr hg e0 hG hb r q => F.run A outer s H args us vs Q E G hr hg e0 hG hb r (h _ _ _ _ _ q)⟩
end
/-- what a body knows beside its invariant -/
structure CtxG (X : Cx) (G : List (Fr1 × L2.St)) : Prop where
  gd : X.A.guards = some []
  cells : ∀ p ∈ G, CellsSt p.1 p.2 X.s_0.heap X.H_0
  sep : ∀ p ∈ G, ∀ x c, p.1.cl.lookup x = some c → c ∉ X.fs ∧ c ∉ X.ex
section
variable {P : Program} {w : World} {K : PySem.W.Frag} {mg : Str → Option Value} {base : Heap} {k : Nat} {f : Addr} {name qual : Str} {params : Arguments} {body : List Stmt} {scope : Scope} {dV kV doc pm cdv ct oc : Value} {an od : Option Addr} {osl : Array (Option Value)} {N ps : List Str} {sp : SpG}
/-- a def by its body -/
theorem fnG_of (lk : K.lookup f = some ⟨oc, od, .func (PySem.W.fnOf name qual params body scope dV kV doc pm an cdv ct), osl⟩) (hcd : PySem.W.codeIn K cdv qual = true) (S : FnScope N ps scope) (len : ∀ G vs H Q E, sp G vs H Q E → vs.length = ps.length)
    (hbody : ∀ (A : Around) (outer : List Env) (s : Shared) (H : Hp) (vs : List V) (Q : VK) (E : XK) (G : List (Fr1 × L2.St)), Room k (A.deeper (envOfC qual scope s.heap.objs.size f cdv)) → CtxG (cxOf (L2.CX P w) P w K mg base N qual scope f cdv A outer s H E) G → sp G vs H Q E →
      ∃ t, PSs (cxOf (L2.CX P w) P w K mg base N qual scope f cdv A outer s H E) body t ∧ t { nx := fun _ H' => Q .non H', rt := Q } (L2.start N vs) H) :
    FnG P w K mg base (k + 1) f (PySem.W.fnOf name qual params body scope dV kV doc pm an cdv ct) ps sp := by
  refine ⟨len, fun A outer s H args us vs Q E G hr hg e0 hG hb r hsp => ?_⟩
  refine LamX.run_ofS (CX := L2.CX P w) lk hcd S hr e0 hb r (len _ _ _ _ _ hsp) fun hr' => hbody A outer s H vs Q E G hr' ⟨hg, fun p hp => (hG p hp).1, fun p hp x c e => ⟨(hG p hp).2 x c e, fun z => nomatch (show c ∈ ([] : List Addr) from z)⟩⟩ hsp
end
section
variable {X : Cx} {pins : List (Addr × Obj)} {σ : L2.St} {H : Hp} {s : Shared} {G : List (Fr1 × L2.St)}
theorem CellsSt.later {fr : Fr1} {σf : L2.St} (C : CellsSt fr σf X.s_0.heap X.H_0) (sep : ∀ x c, fr.cl.lookup x = some c → c ∉ X.fs ∧ c ∉ X.ex) (I : Inv X pins σ H s) : CellsSt fr σf s.heap H := by
  have kp : ∀ x c, fr.cl.lookup x = some c → ∀ o, X.s_0.heap.get? c = some o → s.heap.get? c = some o := fun x c e o ho => I.base.keep c o ho (C.all x c e).1 (sep x c e).1 (sep x c e).2
  refine ⟨fun x c e => ?_, C.inj, fun i x v c e1 e2 e3 => ?_⟩
  · obtain ⟨n, v, o, ho, hd⟩ := C.all x c e
    exact ⟨I.base.free c o ho n (sep x c e).2, v, o, kp x c e o ho, hd⟩
  · obtain ⟨u, r, o, ho, hd⟩ := C.val i x v c e1 e2 e3
    exact ⟨u, r, o, kp x c e3 o ho, hd⟩
/-- the running frame's own cells -/
theorem cellsOwn (I : Inv X pins σ H s) (hk : ∀ x c, X.env.cells.lookup x = some c → X.env.scope.names.lookup x = some .cell) : CellsSt ⟨X.N, X.env.cells⟩ σ s.heap H := by
  refine ⟨fun x c e => ⟨I.freeC x c e, I.cell x c e⟩, I.ok.inj, fun i x v c e1 e2 e3 => ?_⟩
  obtain ⟨m, _, hl⟩ := I.loc
  obtain ⟨u, r, l⟩ := hl i x v e1 e2 (.inr (.inl (hk x c e3)))
  refine ⟨u, r, ?_⟩
  rcases l with ⟨k, _⟩ | ⟨_, c2, e4, z⟩
  · have k : X.env.scope.names.lookup x = some .local := k
    rw [hk x c e3] at k
    cases k
  · rw [show X.env.cells.lookup x = some c from e3] at e4
    cases e4
    exact z
/-- whether the running frame makes lambdas -/
structure Flag (X : Cx) (fl : Bool) : Prop where
  cell : fl = true → ∀ x c, X.env.cells.lookup x = some c → X.env.scope.names.lookup x = some .cell
  fn : fl = true → ∀ x, X.fn x = true
/-- the frames with lambdas, seen from a call -/
def gNow (X : Cx) (fl : Bool) (G : List (Fr1 × L2.St)) (σ : L2.St) : List (Fr1 × L2.St) := if fl then G ++ [(⟨X.N, X.env.cells⟩, σ)] else G
theorem gOk_now {fl : Bool} (C : CtxG X G) (F : Flag X fl) (I : Inv X pins σ H s) : FrOk (gNow X fl G σ) X.stack s.heap H := by
  have old : ∀ p ∈ G, CellsSt p.1 p.2 s.heap H ∧ ∀ x c, p.1.cl.lookup x = some c → c ∉ frs X.stack := fun p hp => by
    have L := (C.cells p hp).later (C.sep p hp) I
    refine ⟨L, fun x c e hm => ?_⟩
    rcases List.mem_cons.mp (I.stkSub c hm) with z | z
    · obtain ⟨v, o, ho, hd⟩ := (L.all x c e).2
      obtain ⟨m, ⟨o2, es, ep, ho2, hd2, _⟩, _⟩ := I.loc
      rw [z, ho2] at ho
      cases ho
      rw [hd2] at hd
      cases hd
    · exact (C.sep p hp x c e).1 z
  unfold gNow
  cases fl with
  | false => exact old
  | true =>
    intro p hp
    rcases List.mem_append.mp hp with hp | hp
    · exact old p hp
    · have e : p = (⟨X.N, X.env.cells⟩, σ) := by simpa using hp
      subst e
      refine ⟨cellsOwn I (F.cell rfl), fun x c e hm => ?_⟩
      rcases List.mem_cons.mp (I.stkSub c hm) with z | z
      · exact I.cne x c e z
      · have h1 := I.ok.cab x c (F.fn rfl x) e
        obtain ⟨_, o, ho, _⟩ := I.ok.funs.mem z
        exact absurd (Nat.lt_of_lt_of_le (Heap.lt_size ho) h1) (Nat.lt_irrefl _)
/-- the callee runs -/
theorem run_G {k : Nat} {f : Addr} {fd : FuncData} {ps : List Str} {sp : SpG} {args : Args} {fl : Bool} {Q : VK} {W : WX} {us : List Value} {vs : List V} (F : FnG X.prog X.w X.K X.mg X.base k f fd ps sp) (hr : Room k X.A) (C : CtxG X G) (Fl : Flag X fl) (tk : Takes X W) (I : Inv X pins σ H s)
    (hb : BindsTo s fd args (ps.zip us)) (r : Vals vs us) (h : sp (gNow X fl G σ) vs H Q (fun c d H' => W c d σ H')) : wpAny (model X.prog X.w) X.A (call (.ref f) args.pos args.kw) (EP X pins σ Q) X.xe s := by
  refine wpAny_call (codeAny_mono (F.run X.A X.stack s H args us vs Q _ _ hr C.gd I.env0 (gOk_now C Fl I) hb r h) fun r s' hq => ?_)
  cases r with
  | error e => exact tk e s' (XE.of_call I (fun _ _ _ h => h) hq)
  | ok fl =>
    cases fl with
    | ret u => exact I.after hq
    | next => exact False.elim hq
    | brk => exact False.elim hq
    | cont => exact False.elim hq
end
/-- f(..) -/
def tCallG (X : Cx) (fl : Bool) (G : List (Fr1 × L2.St)) (W : WX) (sp : SpG) (t : TA) : TE := fun σ H Q => t σ H fun vs H1 => sp (gNow X fl G σ) vs H1 Q fun c d H' => W c d σ H'
section
variable {X : Cx} {G : List (Fr1 × L2.St)} {k : Nat} {f : Addr} {fd : FuncData} {ps : List Str} {sp : SpG} {fl : Bool} {W : WX} {x : Str} {p pos : Pos} {e : Expr} {es : List Expr} {t : TA}
theorem pe_callG (F : FnG X.prog X.w X.K X.mg X.base k f fd ps sp) (hr : Room k X.A) (C : CtxG X G) (Fl : Flag X fl) (tk : Takes X W) (hg : Gl X x) (hm : X.mg x = some (.ref f)) (hk : PySem.W.keepIn X.K (.ref f) = true) (hb : Binds X.K fd ps [])
    (ha : PA X (e :: es) t) (hdb : (x == ("__debug__" : Str)) = false) (he : starEach (e :: es) X.env = (false, eval e X.env) :: starEach es X.env) (hpl : (backTo pos (starEach es X.env)).any (·.1) = false) :
    PE X (.Call (.Name x p) (e :: es) [] pos) (tCallG X fl G W sp t) := by
  refine ⟨fun pins s σ H Q I h => ?_⟩
  refine wpAny_Call_Name_kw (ld_glob I hg hm ?_ hdb)
  refine PySem.W.callWith_K (h₀ := X.base) I.ok.mod.kin hk (thn (ha.run pos pins s σ H _ I h) fun us s1 ⟨vs, H1, I1, r, q⟩ => ⟨I1.kIn, ?_⟩) he hpl
  have hl : us.length = ps.length := by
    rw [← r.length]
    exact F.len _ _ _ _ _ q
  have hb' := hb s1 us I1.kIn (by rw [List.append_nil]; exact hl)
  rw [List.append_nil] at hb'
  exact run_G (args := ⟨us, []⟩) F hr C Fl tk I1 hb' r q
theorem pe_callG0 (F : FnG X.prog X.w X.K X.mg X.base k f fd ps sp) (hr : Room k X.A) (C : CtxG X G) (Fl : Flag X fl) (tk : Takes X W) (hg : Gl X x) (hm : X.mg x = some (.ref f)) (hk : PySem.W.keepIn X.K (.ref f) = true) (hb : Binds X.K fd ps [])
    (hdb : (x == ("__debug__" : Str)) = false) : PE X (.Call (.Name x p) [] [] pos) (tCallG X fl G W sp tNil) := by
  refine ⟨fun pins s σ H Q I h => ?_⟩
  refine wpAny_Call_Name_kw (ld_glob I hg hm ?_ hdb)
  have hl : ([] : List Value).length = ps.length := F.len _ _ _ _ _ h
  have hb' := hb s [] I.kIn hl
  exact PySem.W.callWith_K0 I.kIn hk (run_G (args := ⟨[], []⟩) (us := []) F hr C Fl tk I hb' .nil h)
end
end Pv
end

section
set_option Elab.async false
set_option linter.all false
set_option maxRecDepth 100000
set_option maxHeartbeats 4000000
/-! lambdas without parameters: made, kept in the heap, called from any frame -/
namespace Pv
open PySem PySem.Spec PyProof.Rows L2 LamX
theorem lamO_at {P : Program} {w : World} {H : Hp} {h : Heap} {l : LamI} {cl : List (Str × Addr)} {f c' : Addr} (hok : HOk P w H h) (e : H f = some (LamO l cl f c')) :
    ∃ (pm ctv : Value), h.get? f = some (PySem.W.kla_obj "<lambda>" l.qual l.params l.body l.scope (cloFrom cl l.scope.names []) pm c' ctv) := (hok f _ e).1
theorem lamO_ok {P : Program} {w : World} {H : Hp} {h : Heap} {l : LamI} {cl : List (Str × Addr)} {f c' : Addr} {pm ctv : Value} (e : h.get? f = some (PySem.W.kla_obj "<lambda>" l.qual l.params l.body l.scope (cloFrom cl l.scope.names []) pm c' ctv)) :
    ObjOk P w H h f (LamO l cl f c') := ⟨⟨pm, ctv, e⟩, ⟨_, e⟩, fun _ _ ⟨pm, ctv, q⟩ k => ⟨pm, ctv, k _ q⟩⟩
theorem lamO_tbl {l : LamI} {cl : List (Str × Addr)} {f c' : Addr} (ps : Array Value) : LamO l cl f c' ≠ .tbl ps := fun z => by
  unfold LamO at z
  cases z
section
variable {X : Cx} {pins : List (Addr × Obj)} {σ : L2.St} {H : Hp} {s : Shared}
/-- a lambda is made: told from now on; the maker's table may have grown -/
theorem lam_new {T : List (Addr × Str)} {c P : Addr} {l : LamI} {pos : Pos} {E : Value → Shared → Prop} {Q : Value → Shared → Prop} (I : Inv X pins σ H s) (TB : TabB X.base X.mg c P) (hcode : X.env.code = .ref c)
    (hq : l.qual = X.env.qual ++ "<lambda>") (hm : (P, l.qual) ∈ T) (hu : ∀ p ∈ T, p.1 = P → p.2 = l.qual) (hT : Tabs T H) (hdef : defaultsOf l.params X.env = ([], [])) (hfree : ∀ y ∈ l.scope.names, y.2 = .free → ∃ c, X.env.cells.lookup y.1 = some c)
    (h : ∀ (f c' : Addr) (H1 : Hp) (s' : Shared), Inv X pins σ H1 s' → (∀ ω, Keep ω H H1) → Tabs T H1 → H f = none → H1 f = some (LamO l X.env.cells f c') → H1 c' = some (CodeO c' l.qual) → Q (.ref f) s') :
    wpAny (model X.prog X.w) X.A (eval (.Lambda l.params l.body l.scope pos) X.env) Q E s := by
  obtain ⟨ps, hP, ht, ha⟩ := hT _ hm
  refine PySem.W.kla_eval hdef ?_
  have bP : s.heap.BuiltinsAt X.mg P := TB.bm.keeps I.bk
  have hP' : s.heap.get? P = some { cls := .none, data := .fields ps } := I.hok P _ hP
  cases hc : codeAmong pos ps.toList with
  | none =>
    refine PySem.W.kla_makeFunction (mg := X.mg) (c := c) (P := P) (ps := ps) (closure_ok hfree) I.ok.glob (I.mod.glob.keeps I.bk) hcode (TB.code.keeps I.bk) hP' ht hc TB.gP bP fun c' ctv h' tk hx hge hlt hrec htb => ?_
    obtain ⟨c2, oc, vs, t, e2, hoc, hd, hv⟩ := hrec
    cases e2
    have nC : H c' = none := I.hok.fresh hge
    have nPc : P ≠ c' := ne_of_none hP nC
    have I1 := inv_table (t' := tk) (more := #[rawInt pos.line, rawInt pos.col, .ref c']) (h' := h') I hP hx htb hge ⟨oc, vs, t, hoc, hd, hv⟩
    rw [← hq] at I1
    have nF : upd (upd H P (.tbl (ps ++ #[rawInt pos.line, rawInt pos.col, .ref c']))) c' (CodeO c' l.qual) h'.objs.size = none := I1.hok.fresh (Nat.le_refl _)
    have I2 := I1.laid (t' := tk) (o := LamO l X.env.cells h'.objs.size c') (h' := h'.push (PySem.W.kla_obj "<lambda>" (X.env.qual ++ "<lambda>") l.params l.body l.scope (cloFrom X.env.cells l.scope.names []) ((X.mg "__name__").getD .none) c' ctv))
      (fun b u e => Heap.get?_push_of_some _ e) (Nat.le_refl _) (lamO_ok (by rw [hq]; exact Heap.get?_push_size _ rfl))
    have nH : H h'.objs.size = none := I.hok.fresh (Nat.le_trans hge (Nat.le_of_lt hlt))
    have eL : (ps ++ #[rawInt pos.line, rawInt pos.col, .ref c']).toList = ps.toList ++ [rawInt pos.line, rawInt pos.col, .ref c'] := by simp
    have cF : c' ≠ h'.objs.size := Nat.ne_of_lt hlt
    have eo : ∀ b o, H b = some o → b ≠ P → upd (upd (upd H P (.tbl (ps ++ #[rawInt pos.line, rawInt pos.col, .ref c']))) c' (CodeO c' l.qual)) h'.objs.size (LamO l X.env.cells h'.objs.size c') b = some o := fun b o e hb => by
      rw [upd_ne (ne_of_none e nH), upd_ne (ne_of_none e nC), upd_ne hb]
      exact e
    have eP : upd (upd (upd H P (.tbl (ps ++ #[rawInt pos.line, rawInt pos.col, .ref c']))) c' (CodeO c' l.qual)) h'.objs.size (LamO l X.env.cells h'.objs.size c') P = some (.tbl (ps ++ #[rawInt pos.line, rawInt pos.col, .ref c'])) := by
      rw [upd_ne (ne_of_none hP nH), upd_ne nPc, upd_same]
    refine h _ c' _ _ I2 (fun ω => ⟨fun b o e n _ => eo b o e (fun z => ?_), fun b qs e => ?_⟩) (fun p hp => ?_) nH upd_same ?_
    · rw [z, hP] at e
      exact n ps (Option.some.inj e).symm
    · by_cases hb : b = P
      · rw [hb, hP] at e
        cases e
        exact ⟨_, by rw [hb]; exact eP⟩
      · exact ⟨#[], by rw [eo b _ e hb]; simp⟩
    · by_cases hb : p.1 = P
      · rw [hu p hp hb, hb]
        refine ⟨_, eP, by rw [eL]; exact PySem.TriplesOk_snoc _ _ _ _ ht, fun p' cv hcv => ?_⟩
        rw [eL] at hcv
        rcases among_app _ ht hcv with z | z
        · obtain ⟨c0, e1, e2⟩ := ha p' cv z
          exact ⟨c0, e1, eo _ _ e2 (fun y => by rw [y, hP] at e2; exact codeO_ne ps (Option.some.inj e2).symm)⟩
        · exact ⟨c', z, by rw [upd_ne cF, upd_same]⟩
      · obtain ⟨ps', a1, a2, a3⟩ := hT p hp
        refine ⟨ps', eo _ _ a1 hb, a2, fun p' cv hcv => ?_⟩
        obtain ⟨c0, e1, e2⟩ := a3 p' cv hcv
        exact ⟨c0, e1, eo _ _ e2 (fun y => by rw [y, hP] at e2; exact codeO_ne ps (Option.some.inj e2).symm)⟩
    · rw [upd_ne cF, upd_same]
  | some cv =>
    obtain ⟨c', e, hco⟩ := ha pos cv hc
    subst e
    refine PySem.W.kla_makeFunctionHit (mg := X.mg) (c := c) (P := P) (ps := ps) (closure_ok hfree) I.ok.glob (I.mod.glob.keeps I.bk) hcode (TB.code.keeps I.bk) hP' ht hc bP fun ctv h' tk hx hsz => ?_
    have I1 : Inv X pins σ H { s with heap := h', toks := tk } := I.kept hx
    have I2 := I1.laid (t' := tk) (o := LamO l X.env.cells h'.objs.size c') (h' := h'.push (PySem.W.kla_obj "<lambda>" (X.env.qual ++ "<lambda>") l.params l.body l.scope (cloFrom X.env.cells l.scope.names []) ((X.mg "__name__").getD .none) c' ctv))
      (fun b u e => Heap.get?_push_of_some _ e) (Nat.le_refl _) (lamO_ok (by rw [hq]; exact Heap.get?_push_size _ rfl))
    have nH : H h'.objs.size = none := I1.hok.fresh (Nat.le_refl _)
    have eo : ∀ b o, H b = some o → upd H h'.objs.size (LamO l X.env.cells h'.objs.size c') b = some o := fun b o e => by
      rw [upd_ne (ne_of_none e nH)]
      exact e
    exact h _ c' _ _ I2 (fun ω => ⟨fun b o e _ _ => eo b o e, fun b qs e => ⟨#[], by rw [eo b _ e]; simp⟩⟩) (hT.ext eo) nH upd_same (eo _ _ hco)
end
/-- what a lambda's text must be -/
structure LamT (l : LamI) : Prop where
  sc : NdefX.NScope l.N [] l.N l.scope
  bind : ∀ (q : Str) (cl : List (Str × Addr)) (pm cv ctv : Value), bindArgs (PySem.W.kla_fn "<lambda>" q l.params l.body l.scope cl pm cv ctv) ⟨[], []⟩ = pure []
abbrev lamF (l : LamI) (cl : List (Str × Addr)) (c' : Addr) : NdefX.NF := ⟨"<lambda>", l.qual, l.params, [], l.scope, cloFrom cl l.scope.names [], c'⟩
/-- the context of a lambda's body -/
abbrev lamX (P : Program) (w : World) (K : PySem.W.Frag) (mg : Str → Option Value) (base : Heap) (l : LamI) (cl : List (Str × Addr)) (f c' : Addr) (A : Around) (outer : List Env) (s : Shared) (H : Hp) (E : XK) : Cx :=
  NdefX.ncx (L2.CX P w) P w K mg base l.N (lamF l cl c') f A outer s H E
def lamStart (l : LamI) (σf : L2.St) : L2.St := NdefX.startF l.N [] (l.caps.map (NdefX.slotAt σf))
theorem cellsAt_of {l : LamI} {fr : Fr1} {σf : L2.St} {h : Heap} {H : Hp} (C : CellsSt fr σf h H) (L : LamIn l fr) (T : LamT l) : NdefX.CellsAt (cloFrom fr.cl l.scope.names []) l.N (l.caps.map (NdefX.slotAt σf)) h H := by
  have hlen : l.caps.length = l.N.length := by
    have q := congrArg List.length L.caps
    simpa using q
  refine ⟨by rw [List.length_map]; exact hlen, fun y c e => C.all y c (NdefX.clo_cm L.free e), fun x y c e1 e2 => C.inj x y c (NdefX.clo_cm L.free e1) (NdefX.clo_cm L.free e2), fun i y e => ?_⟩
  have hy : (y, NameKind.free) ∈ l.scope.names := PySem.mem_of_lookup (T.sc.frk y (List.mem_of_getElem? e))
  obtain ⟨c, hc⟩ := L.free _ hy rfl
  refine ⟨c, NdefX.clo_has L.free hy hc, fun v hv => ?_⟩
  have hi : i < l.N.length := (List.getElem?_eq_some_iff.mp e).1
  have q := congrArg (fun z => z[i]?) L.caps
  simp only [List.getElem?_map, e, Option.map_some] at q
  cases hj : l.caps[i]? with
  | none =>
    rw [List.getElem?_eq_none_iff] at hj
    omega
  | some j =>
    rw [hj] at q
    rw [List.getElem?_map, hj] at hv
    exact C.val j y v c (by simpa using q) (NdefX.slotAt_some (by simpa using hv)) hc
/-- x(), a slot that holds a lambda -/
def tCallv (Z : Cx) (fl : Bool) (G : List (Fr1 × L2.St)) (W : WX) (k i : Nat) : TE := fun σ H Q => ∃ (f c' : Addr) (l : LamI) (fr : Fr1) (σf : L2.St) (fid : Nat) (tb : TE), σ[i]? = some (some (.ref f)) ∧ (gNow Z fl G σ)[fid]? = some (fr, σf) ∧
  H f = some (LamO l fr.cl f c') ∧ H c' = some (CodeO c' l.qual) ∧ LamIn l fr ∧ LamT l ∧
  (∀ (A : Around) (outer : List Env) (s : Shared) (H' : Hp), Room k (lamX Z.prog Z.w Z.K Z.mg Z.base l fr.cl f c' A outer s H' fun c d H2 => W c d σ H2).A → CtxG (lamX Z.prog Z.w Z.K Z.mg Z.base l fr.cl f c' A outer s H' fun c d H2 => W c d σ H2) (gNow Z fl G σ) →
    PE (lamX Z.prog Z.w Z.K Z.mg Z.base l fr.cl f c' A outer s H' fun c d H2 => W c d σ H2) l.body tb) ∧ tb (lamStart l σf) H Q
theorem pe_callv {Z : Cx} {fl : Bool} {G : List (Fr1 × L2.St)} {W : WX} {k i : Nat} {a : Str} {p1 p2 : Pos} (C : CtxG Z G) (Fl : Flag Z fl) (tk : Takes Z W) (hr : Room (k + 1) Z.A) (hN : Z.N[i]? = some a) (hv : Vis Z.env.scope a)
    (hd : (a == ("__debug__" : Str)) = false) (hcd : (a == ("__classdict__" : Str)) = false) : PE Z (.Call (.Name a p1) [] [] p2) (tCallv Z fl G W k i) := by
  refine ⟨fun pins s σ H Q I h => ?_⟩
  obtain ⟨f, c', l, fr, σf, fid, tb, hs, hg, hf, hc, L, T, hbody, ht⟩ := h
  refine wpAny_Call_Name_kw (thn ((pe_var (pos := p1) (i := i) hN hv hd hcd).run pins s σ H (fun v H1 => v = .ref f ∧ H1 = H) I ⟨.ref f, hs, rfl, rfl⟩) fun u s1 hu => ?_)
  obtain ⟨v, H1, I1, r1, ev, eH⟩ := hu
  subst ev
  rw [eH] at I1
  obtain rfl : u = Value.ref f := r1
  obtain ⟨pm, ctv, hobj⟩ := lamO_at I1.hok hf
  refine PySem.W.callWith_F0 ⟨_, _, _, _, hobj⟩ ?_
  obtain ⟨⟨oc, vs, t, hoc, hdc, hvc⟩, _, _⟩ := I1.hok c' _ hc
  have gok := gOk_now C Fl I1
  have cst := (gok _ (List.mem_of_getElem? hg)).1
  have rc : codeAny (model Z.prog Z.w) Z.A (.call (.ref f) ⟨[], []⟩) (CR (L2.CX Z.prog Z.w) Z.stack Z.prog Z.w H s1 Q fun c d H' => W c d σ H') s1 := by
    refine PySem.W.kla_callFunE hr.depth hobj rfl T.sc.co T.sc.gen rfl ⟨c', oc, vs, t, rfl, hoc, hdc, hvc⟩ ?_
    rw [T.bind]
    refine wpAny_pure (wpAny_newFunctionEnv T.sc.nocell (fun y hy => absurd hy (by simp)) (fun h1 hns hsb => ⟨I1.nolimit.fresh _ hsb, ?_⟩) T.sc.kind)
    show codeAny _ _ (.expr l.body (NdefX.envF (lamF l fr.cl c') f s1.heap.objs.size)) _ _
    have kp : ∀ b o, s1.heap.get? b = some o → h1.get? b = some o := fun b o e => hsb.extBut b o (Nat.ne_of_lt (Heap.lt_size e)) (Heap.get?_push_of_some _ e)
    have J : L2.Inv (lamX Z.prog Z.w Z.K Z.mg Z.base l fr.cl f c' Z.A Z.stack s1 H fun c d H' => W c d σ H') [] (lamStart l σf) H { s1 with heap := h1, toks := s1.toks + ([] : List (Str × Value)).length } :=
      NdefX.inv_startN (F := lamF l fr.cl c') (us := []) T.sc hr.hd I1.env0 rfl .nil (cellsAt_of cst L T) hns kp
    have CG : CtxG (lamX Z.prog Z.w Z.K Z.mg Z.base l fr.cl f c' Z.A Z.stack s1 H fun c d H' => W c d σ H') (gNow Z fl G σ) :=
      ⟨C.gd, fun p hp => (gok p hp).1, fun p hp x c e => ⟨(gok p hp).2 x c e, fun z => nomatch (show c ∈ ([] : List Addr) from z)⟩⟩
    refine PySem.W.kla_codeExpr (wpAny_mono ((hbody _ _ s1 H (hr.deeper _) CG).run [] _ _ H Q J ht) (fun v s' hq => ?_) fun e s' hq => hq)
    obtain ⟨w', H', J', rv, q⟩ := hq
    exact ⟨w', H', J'.os, J'.bare, J'.base, J'.hok, rv, q⟩
  refine wpAny_call (codeAny_mono rc fun r s' hq => ?_)
  cases r with
  | error e => exact tk e s' (XE.of_call I1 (fun _ _ _ h => h) hq)
  | ok fl =>
    cases fl with
    | ret u => exact I1.after hq
    | next => exact False.elim hq
    | brk => exact False.elim hq
    | cont => exact False.elim hq
end Pv
end

section
set_option Elab.async false
set_option linter.all false
set_option maxRecDepth 100000
set_option maxHeartbeats 4000000
/-! operators and built-ins over plain values, as the layer's rules -/
namespace Pv
open PySem PySem.Spec PyProof.Rows L2
section
variable {X : Cx} {pins : List (Addr × Obj)} {σ : L2.St} {H : Hp} {s : Shared}
/-- a list that stands is locked for ever -/
theorem inv_freeze {a : Addr} {vs : List V} (I : Inv X pins σ H s) (h : H a = some (.lst vs)) : ∃ o, Inv X pins σ (upd H a (.frz o (.lst vs))) s := by
  have ok := I.hok a _ h
  obtain ⟨hz, its, n, r, e⟩ := id ok
  have ne : ∀ {b : Addr} {u : HO}, H b = some u → (∀ ys, u ≠ .lst ys) → b ≠ a := fun q z y => by
    rw [y, h] at q
    exact z vs (Option.some.inj q).symm
  have n0 : ∀ {b : Addr}, H b = none → b ≠ a := fun q y => by
    rw [y, h] at q
    cases q
  refine ⟨{ cls := .type "list", data := .seq its.toArray n }, I.ok, I.os, I.bare, ⟨I.base.keep, I.base.slot, fun b ob q n hx => ?_, I.base.there, fun b xs q => ?_, fun b ob u q => ?_, fun b ps q => ?_⟩, I.loc, I.cell, ?_, fun x c q => ?_, fun p hq => ?_, fun b u q => ?_, I.len⟩
  · have z := I.base.free b ob q n hx
    rw [upd_ne (n0 z)]
    exact z
  · have z := I.base.tups b xs q
    rw [upd_ne (ne z (fun _ y => by cases y))]
    exact z
  · have z := I.base.frzs b ob u q
    rw [upd_ne (ne z (fun _ y => by cases y))]
    exact z
  · obtain ⟨m, z⟩ := I.base.tbls b ps q
    exact ⟨m, by rw [upd_ne (ne z (fun _ y => by cases y))]; exact z⟩
  · rw [upd_ne (n0 I.free)]
    exact I.free
  · rw [upd_ne (n0 (I.freeC x c q))]
    exact I.freeC x c q
  · obtain ⟨e1, e2, r⟩ := I.pin p hq
    exact ⟨e1, by rw [upd_ne (n0 e2)]; exact e2, r⟩
  · by_cases hb : b = a
    · subst hb
      rw [upd_same] at q
      cases q
      exact ⟨e, hz, its, n, r, e⟩
    · rw [upd_ne hb] at q
      exact (I.hok b u q).stay (fun _ _ _ z => z) (fun c z => by rw [upd_ne (ne z (fun _ y => by cases y))]; exact z) (fun c xs z => by rw [upd_ne (ne z (fun _ y => by cases y))]; exact z)
/-- an expression that gives a new list, the list locked -/
def tFrz (te : TE) : TE := fun σ H Q => te σ H fun v H1 => ∃ a vs, v = .ref a ∧ H1 a = some (.lst vs) ∧ ∀ o, Q (.ref a) (upd H1 a (.frz o (.lst vs)))
theorem pe_frz {e : Expr} {te : TE} (h : PE X e te) : PE X e (tFrz te) := by
  refine ⟨fun pins s σ H Q I hq => thn (h.run pins s σ H _ I hq) fun u s1 hu => ?_⟩
  obtain ⟨v, H1, I1, r, a, vs, rfl, ha, q⟩ := hu
  obtain ⟨o, I2⟩ := inv_freeze I1 ha
  exact ⟨_, _, I2, r, q o⟩
theorem dpRef {K : PySem.W.Frag} {v : V} {d : PyData} (h : Dp K H v d) (u : Value) (r : L2.RelV v u) : (∃ a, u = .ref a) ∨ (d = .none ∧ u = .none) ∨ (∃ b, d = .bool b ∧ u = .bool b) ∨ (∃ i t, d = .int i ∧ u = .int i t) ∨ ∃ x t, d = .str x ∧ u = .str x t := by
  cases h with
  | non => exact .inr (.inl ⟨rfl, r⟩)
  | bl b => exact .inr (.inr (.inl ⟨b, rfl, r⟩))
  | int i =>
    obtain ⟨t, rfl⟩ := r
    exact .inr (.inr (.inr (.inl ⟨i, t, rfl, rfl⟩)))
  | str x =>
    obtain ⟨t, rfl⟩ := r
    exact .inr (.inr (.inr (.inr ⟨x, t, rfl, rfl⟩)))
  | lst _ _ => exact .inl ⟨_, r⟩
  | tup _ _ => exact .inl ⟨_, r⟩
mutual
theorem dp_hasDict {K : PySem.W.Frag} : ∀ (d : PyData) (v : V), Dp K H v d → d.hasDict = false
  | .none, _, _ => by simp only [PyData.hasDict]
  | .bool _, _, _ => by simp only [PyData.hasDict]
  | .int _, _, _ => by simp only [PyData.hasDict]
  | .str _, _, _ => by simp only [PyData.hasDict]
  | .list ds, _, h => by
    cases h with
    | lst _ hs =>
      simp only [PyData.hasDict]
      exact dpAll_hasDict ds _ hs
  | .tuple ds, _, h => by
    cases h with
    | tup _ hs =>
      simp only [PyData.hasDict]
      exact dpAll_hasDict ds _ hs
  | .dict _, _, h => by cases h
theorem dpAll_hasDict {K : PySem.W.Frag} : ∀ (ds : List PyData) (vs : List V), DpAll K H vs ds → PyData.hasDictAll ds = false
  | [], _, _ => by simp only [PyData.hasDictAll]
  | d :: ds, _, h => by
    cases h with
    | cons h1 h2 =>
      simp only [PyData.hasDictAll]
      rw [dp_hasDict d _ h1, dpAll_hasDict ds _ h2]
      rfl
end
/-- repr of data -/
theorem call_reprD (hg : X.A.guards = some []) (hu : X.A.units + 65 < cLine) : CallR X (.builtin "repr") (fun xs H Q => ∃ v d, xs = [v] ∧ Dp X.K H v d ∧ d.showable = true ∧ d.depth ≤ 64 ∧ d.shown.length ≤ sizeLine ∧ Q (.str d.shown) H) := by
  intro pins s σ H xs us Q I r h
  obtain ⟨v, d, rfl, hd, hs, hdep, hz, q⟩ := h
  obtain ⟨u, rfl, rv⟩ := vals1 r
  obtain ⟨as, rd⟩ := Dp.reads I d v u hd rv
  rcases dpRef hd u rv with ⟨a, rfl⟩ | ⟨rfl, rfl⟩ | ⟨b, rfl, rfl⟩ | ⟨i, t, rfl, rfl⟩ | ⟨x, t, rfl, rfl⟩
  · exact repr_of_reads' rd hs (PyData.noDict_hsm (dp_hasDict d v hd)) hg (by omega) (fun _ _ e => e) (fun h' u tk hk => ⟨.str _, H, I.kept (t' := tk) hk, ⟨u, rfl⟩, q⟩) hz
  · exact PySem.P.repr_of_none ⟨.str _, H, I.tok _, ⟨_, rfl⟩, by simpa only [PyData.shown] using q⟩
  · refine PySem.P.repr_of_bool ⟨.str _, H, I.tok _, ⟨_, rfl⟩, ?_⟩
    cases b
    · simpa only [PyData.shown] using q
    · simpa only [PyData.shown] using q
  · simp only [PyData.showable, decide_eq_true_eq] at hs
    exact PySem.P.repr_of_int hs ⟨.str _, H, I.tok _, ⟨_, rfl⟩, by simpa only [PyData.shown] using q⟩
  · simp only [PyData.shown] at q hz
    exact PySem.P.repr_of_str ⟨.str _, H, I.tok _, ⟨_, rfl⟩, q⟩ hz
/-- + of two lists, locked ones too -/
theorem op_catS : OpR X (binaryOp .Add) (fun x y H Q => ∃ a b xs ys, x = .ref a ∧ y = .ref b ∧ Rd H a (.lst xs) ∧ Rd H b (.lst ys) ∧ xs.length + ys.length ≤ sizeLine ∧ ∀ p, H p = none → Q (.ref p) (upd H p (.lst (xs ++ ys)))) := by
  intro pins s σ H x y v u Q I rx ry h
  obtain ⟨a, b, xs, ys, rfl, rfl, hx, hy, hz, q⟩ := h
  cases rx
  cases ry
  obtain ⟨z1, its, n1, r1, e1⟩ := hx.ok I.hok
  obtain ⟨z2, its2, n2, r2, e2⟩ := hy.ok I.hok
  refine PySem.P.add_list e1 e2 ?_ (by rw [List.size_toArray, List.size_toArray, ← r1.length, ← r2.length]; exact hz)
  have ea : its.toArray ++ its2.toArray = (its ++ its2).toArray := by simp
  rw [ea]
  exact ⟨.ref _, _, I.lnew (t' := s.toks) (r1.append r2) (by rw [List.length_append]; exact hz), rfl, q _ I.fresh⟩
theorem vals_signs : ∀ (l : List Nat) (its : List Value) (k : Nat), l.length = its.length → (∀ (j : Nat) (c : Nat) (v : Value), l[j]? = some c → its[j]? = some v → ∃ u, v = Value.str ⟨#[c]⟩ u) → Vals (l.map fun c => V.str ⟨#[c]⟩) its
  | [], [], _, _, _ => .nil
  | c :: l, v :: its, k, h, hv => .cons (by
      obtain ⟨u, e⟩ := hv 0 c v rfl rfl
      exact ⟨u, e⟩) (vals_signs l its k (by simpa using h) fun j c' v' h1 h2 => hv (j + 1) c' v' (by simpa using h1) (by simpa using h2))
theorem call_listS (hc : X.calm = true) : CallR X (.type "list") (fun xs H Q => ∃ a, xs = [.str a] ∧ a.length ≤ sizeLine ∧ ∀ p, H p = none → Q (.ref p) (upd H p (.lst (a.cps.toList.map fun c => V.str ⟨#[c]⟩)))) := by
  intro pins s σ H xs us Q I r h
  obtain ⟨a, rfl, hz, q⟩ := h
  obtain ⟨u, rfl, t, rfl⟩ := vals1 r
  refine call_list_str (I.ok.hd hc) a t (fun h' tk acc c k e it => ?_) hz
  refine ⟨.ref s.heap.objs.size, _, I.laid (t' := tk) (o := .lst (a.cps.toList.map fun c => V.str ⟨#[c]⟩)) k (Nat.le_refl _) ⟨by rw [List.length_map]; exact hz, acc.toList, c, ?_, by simpa using e⟩, rfl, q _ (I.hok.fresh (Nat.le_refl _))⟩
  refine vals_signs _ _ 0 ?_ fun j c v h1 h2 => ?_
  · have := it.1
    simp only [Array.length_toList]
    omega
  · obtain ⟨c2, u, e1, e2⟩ := it.2 j v (by simpa using h2)
    have e3 : a.cps[j]? = some c := by simpa using h1
    rw [e3] at e1
    cases e1
    exact ⟨u, e2⟩
theorem rep_fold (l : Array Nat) : ∀ (n : Nat) (acc : Array Nat), (List.replicate n l).foldl (· ++ ·) acc = (acc.toList ++ (List.replicate n l.toList).flatten).toArray
  | 0, acc => by simp
  | n + 1, acc => by
    rw [List.replicate_succ, List.foldl_cons, rep_fold l n, List.replicate_succ, List.flatten_cons]
    simp
theorem op_mulS : OpR X (binaryOp .Mult) (fun x y H Q => ∃ a j, x = .str a ∧ y = .int j ∧ -(2 ^ 62) < j ∧ j < 2 ^ 62 ∧ a.length * j.toNat ≤ 1000000 ∧ Q (.str ⟨(List.replicate j.toNat a.cps.toList).flatten.toArray⟩) H) := by
  intro pins s σ H x y v u Q I rx ry h
  obtain ⟨a, j, rfl, rfl, h1, h2, hz, q⟩ := h
  obtain ⟨t, rfl⟩ := rx
  obtain ⟨t2, rfl⟩ := ry
  have hz2 : sizeLine = 16777216 := sizeLine_eq
  have hl : a.cps.toList.length = a.length := by simp [Str.length]
  refine PySem.P.mul_str ?_ (fun c1 c2 c3 => ?_) (fun c1 c2 => ?_) ?_
  · rw [decide_eq_false (by omega), decide_eq_false (by omega)]
    rfl
  · have h3 : (2 ^ 63 - 1) / j ≥ 1000000 ∨ j ≥ 1000000 := by
      by_cases hj : j ≥ 1000000
      · exact .inr hj
      · refine .inl ?_
        have : (1000000 : Int) * j ≤ 2 ^ 63 - 1 := by omega
        exact (Int.le_ediv_iff_mul_le (by omega)).mpr this
    have hb : (a.length : Int) * j ≤ 1000000 := by
      have e : ((a.length * j.toNat : Nat) : Int) = (a.length : Int) * j := by
        rw [Int.natCast_mul, Int.toNat_of_nonneg (by omega)]
      omega
    have c4 : (2 ^ 63 - 1) / j * j ≤ 2 ^ 63 - 1 := Int.ediv_mul_le _ (by omega)
    have c5 : ((a.length : Int)) ≥ (2 ^ 63 - 1) / j + 1 := by omega
    have c6 : ((2 ^ 63 - 1) / j + 1) * j > 2 ^ 63 - 1 := by
      have := Int.lt_ediv_add_one_mul_self (2 ^ 63 - 1) (show 0 < j by omega)
      omega
    have c7 : ((2 ^ 63 - 1) / j + 1) * j ≤ (a.length : Int) * j := Int.mul_le_mul_of_nonneg_right c5 (by omega)
    omega
  · unfold Builtin.Str.tooLong
    simp only [decide_eq_false_iff_not]
    omega
  · by_cases c1 : j < 1
    · rw [if_pos c1]
      have e : (⟨(List.replicate j.toNat a.cps.toList).flatten.toArray⟩ : Str) = Str.empty := by
        rw [show j.toNat = 0 by omega]
        rfl
      rw [e] at q
      exact ⟨by decide, .str _, H, I.tok _, ⟨_, rfl⟩, q⟩
    · rw [if_neg c1]
      by_cases c2 : (j == 1 || a.length == 0) = true
      · rw [if_pos c2]
        have e : (⟨(List.replicate j.toNat a.cps.toList).flatten.toArray⟩ : Str) = a := by
          rcases Bool.or_eq_true_iff.mp c2 with z | z
          · have z : j = 1 := by simpa using z
            subst z
            show (⟨(List.replicate 1 a.cps.toList).flatten.toArray⟩ : Str) = a
            simp
          · have z : a.cps.toList = [] := List.length_eq_zero_iff.mp (by rw [hl]; simpa using z)
            have z2 : (List.replicate j.toNat a.cps.toList).flatten = a.cps.toList := by
              rw [z]
              simp
            rw [z2]
        rw [e] at q
        exact ⟨.str a, H, I, ⟨t, rfl⟩, q⟩
      · rw [if_neg c2]
        rw [rep_fold]
        refine ⟨?_, .str _, H, I.tok _, ⟨_, rfl⟩, q⟩
        show (List.flatten _).toArray.size ≤ sizeLine
        have e9 : (List.replicate j.toNat a.cps.toList).flatten.toArray.size = j.toNat * a.length := by
          simp [Str.length]
        rw [e9, Nat.mul_comm]
        omega
end
end Pv
end

section
set_option Elab.async false
set_option linter.all false
set_option maxRecDepth 100000
set_option maxHeartbeats 4000000
/-! what the evaluator says is what the text does: the readings -/
namespace Pv
open PySem PySem.Spec PyProof.Rows L2
/-- slots of a frame that lies below -/
def EnvRel (Γ : Gam) (ω : Wd) (φ : List Fr1) (H : Hp) (ρ : Env1) (σ : L2.St) : Prop := ∀ (i : Nat) (d : D), ρ[i]? = some (.pl d) → ∃ v, σ[i]? = some (some v) ∧ Dv Γ ω φ H d v
structure EnvsRel (Γ : Gam) (ω : Wd) (φ : List Fr1) (H : Hp) (G : List (Fr1 × L2.St)) (fs : List Env1) : Prop where
  len : fs.length = G.length
  at_ : ∀ (j : Nat) (ρ : Env1) (p : Fr1 × L2.St), fs[j]? = some ρ → G[j]? = some p → EnvRel Γ ω φ H ρ p.2
/-- the error that an exception bears -/
def ErrV (Γ : Gam) (ω : Wd) (φ : List Fr1) (H : Hp) (c : Nat) (x : Option D) (C : Addr) (dd : Option Addr) : Prop :=
  ∃ fo, Γ.ca c = some (C, fo) ∧ match fo, x with
    | none, none => dd = none
    | some f, some y => ∃ d v, dd = some d ∧ H d = some (.xd [(f, v)]) ∧ Dv Γ ω φ H y v
    | _, _ => False
/-- what is wanted behind an outcome -/
def Aft {α : Type} (Γ : Gam) (ω : Wd) (φ : List Fr1) (H : Hp) (o : Out α) (Q : α → Wd → S0 → Hp → Prop) (E : XK) : Prop := match o with
  | .ok a t => ∀ ω' H', Wx ω H ω' → Keep ω H H' → StRel Γ ω' t H' → Q a ω' t H'
  | .exc c x t => ∀ C dd ω' H', Wx ω H ω' → Keep ω H H' → StRel Γ ω' t H' → ErrV Γ ω' φ H' c x C dd → E (.ref C) dd H'
  | .bad => False
section
variable {Γ : Gam} {ω ω1 : Wd} {φ : List Fr1} {H H1 : Hp} {G : List (Fr1 × L2.St)} {fs : List Env1}
theorem Aft.step {α : Type} {o : Out α} {Q : α → Wd → S0 → Hp → Prop} {E : XK} (hw : Wx ω H ω1) (k : Keep ω H H1) (h : Aft Γ ω φ H o Q E) : Aft Γ ω1 φ H1 o Q E := by
  cases o with
  | ok a t => exact fun ω' H' w' k' s' => h ω' H' (hw.trans k w') (k.trans hw k') s'
  | exc c x t => exact fun C dd ω' H' w' k' s' e => h C dd ω' H' (hw.trans k w') (k.trans hw k') s' e
  | bad => exact h
theorem Aft.imp {α : Type} {o : Out α} {Q Q' : α → Wd → S0 → Hp → Prop} {E E' : XK} (h : Aft Γ ω φ H o Q E) (hq : ∀ a ω' t H', Wx ω H ω' → Keep ω H H' → StRel Γ ω' t H' → Q a ω' t H' → Q' a ω' t H') (he : ∀ c d H', E c d H' → E' c d H') : Aft Γ ω φ H o Q' E' := by
  cases o with
  | ok a t => exact fun ω' H' w k s => hq _ _ _ _ w k s (h ω' H' w k s)
  | exc c x t => exact fun C dd ω' H' w k s e => he _ _ _ (h C dd ω' H' w k s e)
  | bad => exact h
theorem EnvRel.mono {ρ : Env1} {σ : L2.St} (h : EnvRel Γ ω φ H ρ σ) (k : Stay H H1) (hw : ω = none ∨ ω1 = ω) : EnvRel Γ ω1 φ H1 ρ σ := fun i d e => by
  obtain ⟨v, e1, e2⟩ := h i d e
  exact ⟨v, e1, e2.mono k hw (fun _ _ h => h)⟩
theorem EnvsRel.mono (h : EnvsRel Γ ω φ H G fs) (k : Stay H H1) (hw : ω = none ∨ ω1 = ω) : EnvsRel Γ ω1 φ H1 G fs := ⟨h.len, fun j ρ p e1 e2 => (h.at_ j ρ p e1 e2).mono k hw⟩
end
/-- the state of a running frame, told by plain values -/
structure SR (Γ : Gam) (φ : List Fr1) (G : List (Fr1 × L2.St)) (fs : List Env1) (ω0 : Wd) (H0 : Hp) (σ : L2.St) (ρ : Env1) (ω : Wd) (t : S0) (H : Hp) : Prop where
  rel : Rel Γ ω φ ω0 H0 ρ t σ H
  envs : EnvsRel Γ ω φ H G fs
section
variable {Γ : Gam} {φ : List Fr1} {G : List (Fr1 × L2.St)} {fs : List Env1} {ω0 ω ω1 : Wd} {H0 H H1 : Hp} {σ : L2.St} {ρ : Env1} {t t1 : S0}
theorem SR.step (r : SR Γ φ G fs ω0 H0 σ ρ ω t H) (hw : Wx ω H ω1) (k : Keep ω H H1) (s : StRel Γ ω1 t1 H1) : SR Γ φ G fs ω0 H0 σ ρ ω1 t1 H1 :=
  ⟨r.rel.step hw k s, r.envs.mono (k.stay r.rel.st) hw.mono⟩
end
/-- the value told, as an operand that may be a list of one's own -/
inductive Dt (Γ : Gam) (ω : Wd) (φ : List Fr1) (H : Hp) : D → V → Prop
  | pl {d : D} {v : V} : Dv Γ ω φ H d v → Dt Γ ω φ H d v
  | own {a : Addr} {vs : List V} {ds : List D} : H a = some (.lst vs) → ¬ inW ω a → DvL Γ ω φ H ds vs → Dt Γ ω φ H (.lst ds) (.ref a)
theorem Dt.step {Γ : Gam} {ω ω1 : Wd} {φ : List Fr1} {H H1 : Hp} {d : D} {v : V} {t : S0} (h : Dt Γ ω φ H d v) (hw : Wx ω H ω1) (k : Keep ω H H1) (s : StRel Γ ω t H) : Dt Γ ω1 φ H1 d v := by
  have st := k.stay s
  cases h with
  | pl h => exact .pl (h.mono st hw.mono fun _ _ h => h)
  | own e n h =>
    refine .own (k.obj _ _ e (fun _ z => by cases z) n) (fun z => ?_) (h.mono st hw.mono fun _ _ h => h)
    rcases hw with rfl | ⟨_, hw⟩
    · exact n z
    · rw [hw _ z] at e
      cases e
/-- behind a value -/
def tV (Γ : Gam) (φ : List Fr1) (G : List (Fr1 × L2.St)) (fs : List Env1) (W : WX) (f : Env1 → M D) : TE := fun σ H Q => ∃ ω0 H0 ρ ω t, SR Γ φ G fs ω0 H0 σ ρ ω t H ∧ Aft Γ ω φ H (f ρ t) (fun d ω' t' H' => ∀ v, Dv Γ ω' φ H' d v → Q v H') fun c d H' => W c d σ H'
def tO (Γ : Gam) (φ : List Fr1) (G : List (Fr1 × L2.St)) (fs : List Env1) (W : WX) (f : Env1 → M D) : TE := fun σ H Q => ∃ ω0 H0 ρ ω t, SR Γ φ G fs ω0 H0 σ ρ ω t H ∧ Aft Γ ω φ H (f ρ t) (fun d ω' t' H' => ∀ v, Dt Γ ω' φ H' d v → Q v H') fun c d H' => W c d σ H'
def tBl (Γ : Gam) (φ : List Fr1) (G : List (Fr1 × L2.St)) (fs : List Env1) (W : WX) (f : Env1 → M Bool) : TT := fun σ H Q => ∃ ω0 H0 ρ ω t, SR Γ φ G fs ω0 H0 σ ρ ω t H ∧ Aft Γ ω φ H (f ρ t) (fun b ω' t' H' => Q b H') fun c d H' => W c d σ H'
def tL (Γ : Gam) (φ : List Fr1) (G : List (Fr1 × L2.St)) (fs : List Env1) (W : WX) (f : Env1 → M (List D)) : TA := fun σ H Q => ∃ ω0 H0 ρ ω t, SR Γ φ G fs ω0 H0 σ ρ ω t H ∧ Aft Γ ω φ H (f ρ t) (fun ds ω' t' H' => ∀ vs, DvL Γ ω' φ H' ds vs → Q vs H') fun c d H' => W c d σ H'
inductive DtL (Γ : Gam) (ω : Wd) (φ : List Fr1) (H : Hp) : List D → List V → Prop
  | nil : DtL Γ ω φ H [] []
  | cons {d : D} {v : V} {ds : List D} {vs : List V} : Dt Γ ω φ H d v → DtL Γ ω φ H ds vs → DtL Γ ω φ H (d :: ds) (v :: vs)
def tLo (Γ : Gam) (φ : List Fr1) (G : List (Fr1 × L2.St)) (fs : List Env1) (W : WX) (f : Env1 → M (List D)) : TA := fun σ H Q => ∃ ω0 H0 ρ ω t, SR Γ φ G fs ω0 H0 σ ρ ω t H ∧ Aft Γ ω φ H (f ρ t) (fun ds ω' t' H' => ∀ vs, DtL Γ ω' φ H' ds vs → Q vs H') fun c d H' => W c d σ H'
section
variable {Γ : Gam} {φ : List Fr1} {G : List (Fr1 × L2.St)} {fs : List Env1} {W : WX} {ω0 ω : Wd} {H0 H : Hp} {σ : L2.St} {ρ : Env1} {t : S0}
/-- a value, then the rest: outcomes -/
theorem aft_bind {α β : Type} {m : M α} {f : α → M β} {Q : β → Wd → S0 → Hp → Prop} {E : XK} (A : Aft Γ ω φ H ((m >>= f) t) Q E) : Aft Γ ω φ H (m t) (fun a ω' t' H' => Aft Γ ω' φ H' (f a t') Q E) E := by
  cases h : m t with
  | bad =>
    rw [bind_bad h] at A
    exact A
  | exc c x t' =>
    rw [bind_exc h] at A
    exact A
  | ok a t' =>
    rw [bind_ok h] at A
    exact fun ω' H' w k s => A.step w k
/-- run a value first -/
theorem tV_bind {β : Type} {g : Env1 → M D} {f : D → M β} {Q : β → Wd → S0 → Hp → Prop} {K : VK} (R : SR Γ φ G fs ω0 H0 σ ρ ω t H) (A : Aft Γ ω φ H ((g ρ >>= f) t) Q fun c d H' => W c d σ H')
    (k : ∀ d v ω1 t1 H1, SR Γ φ G fs ω0 H0 σ ρ ω1 t1 H1 → Wx ω H ω1 → Keep ω H H1 → Dv Γ ω1 φ H1 d v → Aft Γ ω1 φ H1 (f d t1) Q (fun c d H' => W c d σ H') → K v H1) : tV Γ φ G fs W g σ H K :=
  ⟨ω0, H0, ρ, ω, t, R, (aft_bind A).imp (fun d ω1 t1 H1 w kp s A1 v hv => k d v ω1 t1 H1 (R.step w kp s) w kp hv A1) fun _ _ _ e => e⟩
theorem tO_bind {β : Type} {g : Env1 → M D} {f : D → M β} {Q : β → Wd → S0 → Hp → Prop} {K : VK} (R : SR Γ φ G fs ω0 H0 σ ρ ω t H) (A : Aft Γ ω φ H ((g ρ >>= f) t) Q fun c d H' => W c d σ H')
    (k : ∀ d v ω1 t1 H1, SR Γ φ G fs ω0 H0 σ ρ ω1 t1 H1 → Wx ω H ω1 → Keep ω H H1 → Dt Γ ω1 φ H1 d v → Aft Γ ω1 φ H1 (f d t1) Q (fun c d H' => W c d σ H') → K v H1) : tO Γ φ G fs W g σ H K :=
  ⟨ω0, H0, ρ, ω, t, R, (aft_bind A).imp (fun d ω1 t1 H1 w kp s A1 v hv => k d v ω1 t1 H1 (R.step w kp s) w kp hv A1) fun _ _ _ e => e⟩
theorem tBl_bind {β : Type} {g : Env1 → M Bool} {f : Bool → M β} {Q : β → Wd → S0 → Hp → Prop} {K : Bool → Hp → Prop} (R : SR Γ φ G fs ω0 H0 σ ρ ω t H) (A : Aft Γ ω φ H ((g ρ >>= f) t) Q fun c d H' => W c d σ H')
    (k : ∀ b ω1 t1 H1, SR Γ φ G fs ω0 H0 σ ρ ω1 t1 H1 → Wx ω H ω1 → Keep ω H H1 → Aft Γ ω1 φ H1 (f b t1) Q (fun c d H' => W c d σ H') → K b H1) : tBl Γ φ G fs W g σ H K :=
  ⟨ω0, H0, ρ, ω, t, R, (aft_bind A).imp (fun d ω1 t1 H1 w kp s A1 => k d ω1 t1 H1 (R.step w kp s) w kp A1) fun _ _ _ e => e⟩
theorem tL_bind {β : Type} {g : Env1 → M (List D)} {f : List D → M β} {Q : β → Wd → S0 → Hp → Prop} {K : List V → Hp → Prop} (R : SR Γ φ G fs ω0 H0 σ ρ ω t H) (A : Aft Γ ω φ H ((g ρ >>= f) t) Q fun c d H' => W c d σ H')
    (k : ∀ ds vs ω1 t1 H1, SR Γ φ G fs ω0 H0 σ ρ ω1 t1 H1 → Wx ω H ω1 → Keep ω H H1 → DvL Γ ω1 φ H1 ds vs → Aft Γ ω1 φ H1 (f ds t1) Q (fun c d H' => W c d σ H') → K vs H1) : tL Γ φ G fs W g σ H K :=
  ⟨ω0, H0, ρ, ω, t, R, (aft_bind A).imp (fun d ω1 t1 H1 w kp s A1 v hv => k d v ω1 t1 H1 (R.step w kp s) w kp hv A1) fun _ _ _ e => e⟩
theorem tLo_bind {β : Type} {g : Env1 → M (List D)} {f : List D → M β} {Q : β → Wd → S0 → Hp → Prop} {K : List V → Hp → Prop} (R : SR Γ φ G fs ω0 H0 σ ρ ω t H) (A : Aft Γ ω φ H ((g ρ >>= f) t) Q fun c d H' => W c d σ H')
    (k : ∀ ds vs ω1 t1 H1, SR Γ φ G fs ω0 H0 σ ρ ω1 t1 H1 → Wx ω H ω1 → Keep ω H H1 → DtL Γ ω1 φ H1 ds vs → Aft Γ ω1 φ H1 (f ds t1) Q (fun c d H' => W c d σ H') → K vs H1) : tLo Γ φ G fs W g σ H K :=
  ⟨ω0, H0, ρ, ω, t, R, (aft_bind A).imp (fun d ω1 t1 H1 w kp s A1 v hv => k d v ω1 t1 H1 (R.step w kp s) w kp hv A1) fun _ _ _ e => e⟩
/-- an option's value -/
theorem aft_opt {α β : Type} {o : Option α} {f : α → M β} {Q : β → Wd → S0 → Hp → Prop} {E : XK} (A : Aft Γ ω φ H ((M.opt o >>= f) t) Q E) : ∃ a, o = some a ∧ Aft Γ ω φ H (f a t) Q E := by
  cases o with
  | none => exact A.elim
  | some a => exact ⟨a, rfl, A⟩
theorem aft_opt1 {α : Type} {o : Option α} {Q : α → Wd → S0 → Hp → Prop} {E : XK} (A : Aft Γ ω φ H (M.opt o t) Q E) : ∃ a, o = some a ∧ Aft Γ ω φ H (.ok a t) Q E := by
  cases o with
  | none => exact A.elim
  | some a => exact ⟨a, rfl, A⟩
/-- nothing happens -/
theorem Aft.now {α : Type} {a : α} {Q : α → Wd → S0 → Hp → Prop} {E : XK} (A : Aft Γ ω φ H (.ok a t) Q E) (s : StRel Γ ω t H) : Q a ω t H := A ω H (.refl _ _) (.refl _ _) s
end
end Pv
end

section
set_option Elab.async false
set_option linter.all false
set_option maxRecDepth 100000
set_option maxHeartbeats 4000000
/-! expressions -/
namespace Pv
open PySem PySem.Spec PyProof.Rows L2
theorem pe_imp {X : Cx} {e : Expr} {t t' : TE} (h : PE X e t) (k : ∀ σ H Q, t' σ H Q → t σ H Q) : PE X e t' := ⟨fun pins s σ H Q I q => h.run pins s σ H Q I (k _ _ _ q)⟩
theorem pt_imp {X : Cx} {e : Expr} {t t' : TT} (h : PT X e t) (k : ∀ σ H Q, t' σ H Q → t σ H Q) : PT X e t' := ⟨fun pins s σ H Q I q => h.run pins s σ H Q I (k _ _ _ q)⟩
theorem pw_imp {X : Cx} {e : Expr} {t t' : TT} (h : PW X e t) (k : ∀ σ H Q, t' σ H Q → t σ H Q) : PW X e t' := ⟨fun w pins s σ H Q I q => h.run w pins s σ H Q I (k _ _ _ q)⟩
theorem pa_imp {X : Cx} {es : List Expr} {t t' : TA} (h : PA X es t) (k : ∀ σ H Q, t' σ H Q → t σ H Q) : PA X es t' := ⟨fun pos pins s σ H Q I q => h.run pos pins s σ H Q I (k _ _ _ q)⟩
theorem ps_imp {X : Cx} {st : Stmt} {t t' : TS} (h : PS X st t) (k : ∀ D σ H, t' D σ H → t D σ H) : PS X st t' := ⟨fun pins s σ H D I q => h.run pins s σ H D I (k _ _ _ q)⟩
theorem opr_or {X : Cx} {f : Value → Value → Sem Value} {r1 r2 : R2} (h1 : OpR X f r1) (h2 : OpR X f r2) : OpR X f (fun x y H Q => r1 x y H Q ∨ r2 x y H Q) := by
  intro pins s σ H x y v u Q I rx ry h
  rcases h with h | h
  · exact h1 pins s σ H x y v u Q I rx ry h
  · exact h2 pins s σ H x y v u Q I rx ry h
theorem callr_or {X : Cx} {f : Value} {r1 r2 : List V → Hp → VK → Prop} (h1 : CallR X f r1) (h2 : CallR X f r2) : CallR X f (fun xs H Q => r1 xs H Q ∨ r2 xs H Q) := by
  intro pins s σ H xs us Q I r h
  rcases h with h | h
  · exact h1 pins s σ H xs us Q I r h
  · exact h2 pins s σ H xs us Q I r h
/-- the value as it is, or a new list of one's own that is locked -/
def FzQ (Q : VK) : VK := fun v H1 => Q v H1 ∨ ∃ a vs, v = .ref a ∧ H1 a = some (.lst vs) ∧ ∀ o, Q (.ref a) (upd H1 a (.frz o (.lst vs)))
def tFz (te : TE) : TE := fun σ H Q => te σ H (FzQ Q)
theorem pe_fz {X : Cx} {e : Expr} {te : TE} (h : PE X e te) : PE X e (tFz te) := by
  refine ⟨fun pins s σ H Q I hq => thn (h.run pins s σ H _ I hq) fun u s1 hu => ?_⟩
  obtain ⟨v, H1, I1, r, q | ⟨a, vs, rfl, ha, q⟩⟩ := hu
  · exact ⟨_, _, I1, r, q⟩
  · obtain ⟨o, I2⟩ := inv_freeze I1 ha
    exact ⟨_, _, I2, r, q o⟩
section
variable {Γ : Gam} {φ : List Fr1} {ω : Wd} {H : Hp} {t : S0}
theorem keep_new {p : Addr} {o : HO} (h : H p = none) : Keep ω H (upd H p o) :=
  ⟨fun b u e _ _ => by rw [upd_ne (ne_of_none e h)]; exact e, fun b ps e => ⟨#[], by rw [upd_ne (ne_of_none e h), e]; simp⟩⟩
theorem StRel.new {p : Addr} {o : HO} (s : StRel Γ ω t H) (h : H p = none) : StRel Γ ω t (upd H p o) := by
  have k : ∀ b u, H b = some u → upd H p o b = some u := fun b u e => by
    rw [upd_ne (ne_of_none e h)]
    exact e
  refine ⟨s.tabs.ext k, ?_⟩
  have d := s.ds
  cases ω with
  | none => cases t <;> exact d
  | some w =>
    cases t with
    | none => exact d
    | some z =>
      obtain ⟨a, l, c⟩ := w
      obtain ⟨h1, h2, o, h3⟩ := d
      exact ⟨k _ _ h1, k _ _ h2, o, k _ _ h3⟩
theorem stay_new {p : Addr} {o : HO} (h : H p = none) : Stay H (upd H p o) := fun b u e _ => by
  rw [upd_ne (ne_of_none e h)]
  exact e
variable {E : XK} {Q : VK}
abbrev QV (Γ : Gam) (φ : List Fr1) (Q : VK) : D → Wd → S0 → Hp → Prop := fun d ω' _ H' => ∀ v, Dv Γ ω' φ H' d v → Q v H'
theorem aft_val {d : D} {v : V} (A : Aft Γ ω φ H (.ok d t) (QV Γ φ Q) E) (s : StRel Γ ω t H) (h : Dv Γ ω φ H d v) : Q v H := A.now s v h
theorem aft_tup {ds : List D} {vs : List V} {p : Addr} (A : Aft Γ ω φ H (.ok (.tup ds) t) (QV Γ φ Q) E) (s : StRel Γ ω t H) (h : DvL Γ ω φ H ds vs) (hp : H p = none) : Q (.ref p) (upd H p (.tup vs)) :=
  A ω _ (.refl _ _) (keep_new hp) (s.new hp) _ (.tup (.inl (.inl upd_same)) (h.mono (stay_new hp) (.inr rfl) fun _ _ h => h))
theorem aft_lst {ds : List D} {vs : List V} {p : Addr} (A : Aft Γ ω φ H (.ok (.lst ds) t) (QV Γ φ Q) E) (s : StRel Γ ω t H) (h : DvL Γ ω φ H ds vs) (hp : H p = none) : FzQ Q (.ref p) (upd H p (.lst vs)) :=
  .inr ⟨p, vs, rfl, upd_same, fun o => by
    rw [upd_upd]
    exact A ω _ (.refl _ _) (keep_new hp) (s.new hp) _ (.lst ⟨o, upd_same⟩ (h.mono (stay_new hp) (.inr rfl) fun _ _ h => h))⟩
theorem DvL.length {ds : List D} {vs : List V} (h : DvL Γ ω φ H ds vs) : ds.length = vs.length := by
  induction ds generalizing vs with
  | nil =>
    cases h
    rfl
  | cons d ds ih =>
    cases h with
    | cons _ h => simp [ih h]
theorem DvL.append {ds es : List D} {vs us : List V} (h : DvL Γ ω φ H ds vs) (h2 : DvL Γ ω φ H es us) : DvL Γ ω φ H (ds ++ es) (vs ++ us) := by
  induction ds generalizing vs with
  | nil =>
    cases h
    exact h2
  | cons d ds ih =>
    cases h with
    | cons h1 h => exact .cons h1 (ih h)
theorem DvL.get {ds : List D} {vs : List V} (h : DvL Γ ω φ H ds vs) : ∀ {i : Nat} {d : D}, ds[i]? = some d → ∃ v, vs[i]? = some v ∧ Dv Γ ω φ H d v := by
  induction ds generalizing vs with
  | nil => intro i d e; simp at e
  | cons x ds ih =>
    cases h with
    | cons h1 h2 =>
      intro i d e
      cases i with
      | zero =>
        cases e
        exact ⟨_, rfl, h1⟩
      | succ i => exact ih h2 (by simpa using e)
theorem DvL.take {ds : List D} {vs : List V} (h : DvL Γ ω φ H ds vs) (n : Nat) : DvL Γ ω φ H (ds.take n) (vs.take n) := by
  induction ds generalizing vs n with
  | nil =>
    cases h
    simpa using DvL.nil
  | cons d ds ih =>
    cases h with
    | cons h1 h =>
      cases n with
      | zero => exact .nil
      | succ n => exact .cons h1 (ih h n)
theorem DvL.drop {ds : List D} {vs : List V} (h : DvL Γ ω φ H ds vs) (n : Nat) : DvL Γ ω φ H (ds.drop n) (vs.drop n) := by
  induction ds generalizing vs n with
  | nil =>
    cases h
    simpa using DvL.nil
  | cons d ds ih =>
    cases h with
    | cons h1 h =>
      cases n with
      | zero => exact .cons h1 h
      | succ n => exact ih h n
theorem pow_nat {i j : Int} (h : (decide (0 ≤ j) && (decide (j ≤ 1000000) && decide (i.natAbs < 2 ^ 64))) = true) : 0 ≤ j ∧ j ≤ 1000000 ∧ i.natAbs < 2 ^ 64 := by simpa using h
end
/-- the readings of a two-place operator -/
def opB : Bop → Operator
  | .add => .Add
  | .sub => .Sub
  | .mul => .Mult
  | .mod => .Mod
  | .fdiv => .FloorDiv
  | .pow => .Pow
def rBin (K : PySem.W.Frag) : Bop → R2
  | .add => fun x y H Q => (∃ i j, x = .int i ∧ y = .int j ∧ Q (.int (i + j)) H) ∨ ((∃ i j, x = .str i ∧ y = .str j ∧ i.length + j.length ≤ sizeLine ∧ Q (.str (i ++ j)) H) ∨
      ((∃ a b xs ys, x = .ref a ∧ y = .ref b ∧ Rd H a (.lst xs) ∧ Rd H b (.lst ys) ∧ xs.length + ys.length ≤ sizeLine ∧ ∀ p, H p = none → Q (.ref p) (upd H p (.lst (xs ++ ys)))) ∨ rCatA K x y H Q))
  | .sub => fun x y H Q => ∃ i j, x = .int i ∧ y = .int j ∧ Q (.int (i - j)) H
  | .mul => fun x y H Q => (rI CMul fun i j => .int (i * j)) x y H Q ∨ ((rI CMulW fun i j => .int (i * j)) x y H Q ∨
      ∃ a j, x = .str a ∧ y = .int j ∧ -(2 ^ 62) < j ∧ j < 2 ^ 62 ∧ a.length * j.toNat ≤ 1000000 ∧ Q (.str ⟨(List.replicate j.toNat a.cps.toList).flatten.toArray⟩) H)
  | .mod => rI (fun _ j => j ≠ 0) fun i j => .int (i.fmod j)
  | .fdiv => rI CDivW fun i j => .int (i / j)
  | .pow => rI CPow fun i j => .int (i ^ j.toNat)
theorem opr_add_int {X : Cx} : OpR X (binaryOp .Add) (fun x y H Q => ∃ i j, x = .int i ∧ y = .int j ∧ Q (.int (i + j)) H) := fun pins s σ H x y v u Q I rx ry ⟨i, j, e1, e2, q⟩ => op_add pins s σ H x y v u Q I rx ry ⟨i, j, e1, e2, q⟩
theorem opr_sub_int {X : Cx} : OpR X (binaryOp .Sub) (fun x y H Q => ∃ i j, x = .int i ∧ y = .int j ∧ Q (.int (i - j)) H) := fun pins s σ H x y v u Q I rx ry ⟨i, j, e1, e2, q⟩ => op_sub pins s σ H x y v u Q I rx ry ⟨i, j, e1, e2, q⟩
theorem opr_bin {X : Cx} (op : Bop) : OpR X (binaryOp (opB op)) (rBin X.K op) := by
  cases op with
  | add => exact opr_or opr_add_int (opr_or op_add_str (opr_or op_catS op_catA))
  | sub => exact opr_sub_int
  | mul => exact opr_or op_mul (opr_or op_mulW op_mulS)
  | mod => exact op_modN
  | fdiv => exact op_fdivW
  | pow => exact op_pow
section
variable {Γ : Gam} {φ : List Fr1} {ω : Wd} {H : Hp} {t : S0} {E : XK} {Q : VK}
theorem bin_ok {op : Bop} {x y z : D} {v u : V} (h : vbin op x y = some z) (hx : Dv Γ ω φ H x v) (hy : Dv Γ ω φ H y u) (s : StRel Γ ω t H) (A : Aft Γ ω φ H (.ok z t) (QV Γ φ Q) E) : rBin Γ.K op v u H (FzQ Q) := by
  have one : ∀ {w : V}, Dv Γ ω φ H z w → FzQ Q w H := fun d => .inl (aft_val A s d)
  cases op with
  | add =>
    cases hx with
    | int i =>
      cases hy with
      | int j =>
        cases h
        exact .inl ⟨i, j, rfl, rfl, one (.int _)⟩
      | _ => cases h
    | str a =>
      cases hy with
      | str b =>
        simp only [vbin] at h
        split at h
        · cases h
          exact .inr (.inl ⟨a, b, rfl, rfl, by assumption, one (.str _)⟩)
        · cases h
      | _ => cases h
    | lst e1 d1 =>
      cases hy with
      | lst e2 d2 =>
        simp only [vbin] at h
        split at h
        · rename_i hz
          cases h
          rw [d1.length, d2.length] at hz
          exact .inr (.inr (.inl ⟨_, _, _, _, rfl, rfl, e1.rd, e2.rd, hz, fun p hp => aft_lst A s (d1.append d2) hp⟩))
        · cases h
      | _ => cases h
    | tup e1 d1 =>
      cases hy with
      | tup e2 d2 =>
        simp only [vbin] at h
        split at h
        · rename_i hz
          cases h
          rw [d1.length, d2.length] at hz
          refine .inr (.inr (.inr ⟨_, _, _, _, rfl, rfl, e1, e2, hz, fun z => ?_, fun _ z => ?_, fun _ _ p hp => .inl (aft_tup A s (d1.append d2) hp)⟩))
          · rw [z] at d1
            cases d1
            simp only [List.nil_append] at one
            exact one (.tup e2 d2)
          · rw [z] at d2
            cases d2
            simp only [List.append_nil] at one
            exact one (.tup e1 d1)
        · cases h
      | _ => cases h
    | _ => cases hy <;> cases h
  | sub =>
    cases hx with
    | int i =>
      cases hy with
      | int j =>
        cases h
        exact ⟨i, j, rfl, rfl, one (.int _)⟩
      | _ => cases h
    | _ => cases hy <;> cases h
  | mul =>
    cases hx with
    | int i =>
      cases hy with
      | int j =>
        simp only [vbin] at h
        split at h
        · rename_i hz
          cases h
          unfold mulOk isInt64 at hz
          simp only [Bool.or_eq_true, Bool.and_eq_true, decide_eq_true_eq] at hz
          rcases hz with hz | hz | hz
          · exact .inl ⟨i, j, rfl, rfl, .inl hz, one (.int _)⟩
          · exact .inl ⟨i, j, rfl, rfl, .inr hz, one (.int _)⟩
          · exact .inr (.inl ⟨i, j, rfl, rfl, hz, one (.int _)⟩)
        · cases h
      | _ => cases h
    | str a =>
      cases hy with
      | int j =>
        simp only [vbin] at h
        split at h
        · rename_i hz
          cases h
          simp only [Bool.and_eq_true, decide_eq_true_eq] at hz
          exact .inr (.inr ⟨a, j, rfl, rfl, hz.2.1, hz.1, hz.2.2, one (.str _)⟩)
        · cases h
      | _ => cases h
    | _ => cases hy <;> cases h
  | mod =>
    cases hx with
    | int i =>
      cases hy with
      | int j =>
        simp only [vbin] at h
        split at h
        · rename_i hz
          cases h
          exact ⟨i, j, rfl, rfl, by omega, one (by show Dv Γ ω φ H (.int (i % j)) (.int (i.fmod j)); rw [Int.fmod_eq_emod_of_nonneg _ (by omega)]; exact .int _)⟩
        · cases h
      | _ => cases h
    | _ => cases hy <;> cases h
  | fdiv =>
    cases hx with
    | int i =>
      cases hy with
      | int j =>
        simp only [vbin] at h
        split at h
        · rename_i hz
          cases h
          simp only [Bool.and_eq_true, decide_eq_true_eq] at hz
          exact ⟨i, j, rfl, rfl, hz, one (.int _)⟩
        · cases h
      | _ => cases h
    | _ => cases hy <;> cases h
  | pow =>
    cases hx with
    | int i =>
      cases hy with
      | int j =>
        simp only [vbin] at h
        split at h
        · rename_i hz
          cases h
          exact ⟨i, j, rfl, rfl, pow_nat hz, one (.int _)⟩
        · cases h
      | _ => cases h
    | _ => cases hy <;> cases h
end
end Pv
end

section
set_option Elab.async false
set_option linter.all false
set_option maxRecDepth 100000
set_option maxHeartbeats 4000000
/-! one scene: what a text's names mean; a text and its combinators -/
namespace Pv
open PySem PySem.Spec PyProof.Rows L2
structure Sn where
  Γ : Gam
  P : Prog
  n : Nat
  k : Nat
  fl : Bool
  N : List Str
  sc : Scope
  q : Str
  w : Str → Bool
abbrev Sn.c (Z : Sn) (fs : List Env1) : Ctx := ctxOf Z.P Z.n (run Z.P Z.n Z.k) Z.fl fs
/-- what a call of the f-th def promises -/
def spF (Γ : Gam) (m : List Env1 → List D → M D) : SpG := fun Gs vs H Q E => ∃ ω fs ds t, DvL Γ ω (Gs.map (·.1)) H ds vs ∧ StRel Γ ω t H ∧ EnvsRel Γ ω (Gs.map (·.1)) H Gs fs ∧ Aft Γ ω (Gs.map (·.1)) H (m fs ds t) (QV Γ (Gs.map (·.1)) Q) E
/-- what the written part says of the classes of errors -/
structure GOk (Γ : Gam) (P : Prog) : Prop where
  fn : ∀ f I, Γ.fi f = some I → Γ.mg I.nm = some (.ref I.fa) ∧ PySem.W.keepIn Γ.K (.ref I.fa) = true ∧ Binds Γ.K I.fd I.ps [] ∧ (I.nm == ("__debug__" : Str)) = false
  at_ : ∀ c C f, Γ.ca c = some (C, some f) → PySem.W.findIn Γ.K (.ref C) f = some none
  xf : ∀ c C fo, Γ.ca c = some (C, fo) → XfC Γ.K C
  cls : ∀ c C fo, Γ.ca c = some (C, fo) → (PySem.W.clsIn Γ.K C).isSome = true ∧ PySem.W.findIn Γ.K (.ref C) "__class__" = some (some (.builtin "object.__class__")) ∧ PySem.W.mroIn Γ.K C (.type "object") = some true
  ga : PySem.W.specialIn Γ.K (.builtin "object.__class__") "__get__" = some (some (.builtin "getset_descriptor.__get__")) ∧ PySem.W.takesIn Γ.K (.builtin "object.__class__") = some true
  one : ∀ c k C D fo fo' b, Γ.ca c = some (C, fo) → Γ.ca k = some (D, fo') → P.sub c k = some b → PySem.W.kitOne Γ.K (.ref C) (.ref D) = some b ∧ PySem.W.exmOne Γ.K (.ref C) (.ref D) = some b
  not : ∀ (a : D) (T : String) c C fo, kindD a = some T → Γ.ca c = some (C, fo) → PySem.W.kitOne Γ.K (.type T) (.ref C) = some false
structure SX (Z : Sn) (X : Cx) (W : WX) (G : List (Fr1 × L2.St)) (φ : List Fr1) (fs : List Env1) : Prop where
  eK : X.K = Z.Γ.K
  eP : X.prog = Z.Γ.prog
  eM : X.mg = Z.Γ.mg
  eN : X.N = Z.N
  eS : X.env.scope = Z.sc
  gok : GOk Z.Γ Z.P
  calm : X.calm = true
  nd : Z.N.Nodup
  tk : Takes X W
  cg : CtxG X G
  fg : Flag X Z.fl
  fn : ∀ x, Z.w x = true → Loc Z.sc x → X.fn x = true ∨ Z.sc.names.lookup x = some .local
  room : Room (Z.k + 4) X.A
  hφ : φ = G.map (·.1) ++ if Z.fl then [⟨X.N, X.env.cells⟩] else []
  prom : ∀ j, j ≤ Z.k → ∀ f I, Z.Γ.fi f = some I → FnG X.prog X.w X.K X.mg X.base (j + 4) I.fa I.fd I.ps (spF Z.Γ ((run Z.P Z.n j).1 f))
  tb : ∀ q c P, Z.Γ.tb q = some (c, P) → LamX.TabB X.base X.mg c P
  code : Z.fl = true → ∃ c P, X.env.code = .ref c ∧ Z.Γ.tb Z.q = some (c, P) ∧ X.env.qual = Z.q
def SE (Z : Sn) (e : Expr) (m : CE) : Prop := ∀ X W G φ fs, SX Z X W G φ fs → PE X e (tV Z.Γ φ G fs W (m (Z.c fs)))
/-- an operand: read only -/
def SO (Z : Sn) (e : Expr) (m : CE) : Prop := ∀ X W G φ fs, SX Z X W G φ fs → PE X e (tO Z.Γ φ G fs W (m (Z.c fs)))
/-- a test -/
def ST (Z : Sn) (e : Expr) (m : CE) : Prop := ∀ X W G φ fs, SX Z X W G φ fs → PT X e (tBl Z.Γ φ G fs W fun ρ => m (Z.c fs) ρ >>= vb)
def SL (Z : Sn) (es : List Expr) (m : CL) : Prop := ∀ X W G φ fs, SX Z X W G φ fs → PA X es (tL Z.Γ φ G fs W (m (Z.c fs)))
def SLo (Z : Sn) (es : List Expr) (m : CL) : Prop := ∀ X W G φ fs, SX Z X W G φ fs → PA X es (tLo Z.Γ φ G fs W (m (Z.c fs)))
section
variable {Γ : Gam} {φ : List Fr1} {G : List (Fr1 × L2.St)} {fs : List Env1} {ω0 ω ω1 : Wd} {H0 H H1 : Hp} {σ : L2.St} {ρ : Env1} {t t1 : S0}
theorem Dv.step {d : D} {v : V} (h : Dv Γ ω φ H d v) (R : SR Γ φ G fs ω0 H0 σ ρ ω t H) (w : Wx ω H ω1) (k : Keep ω H H1) : Dv Γ ω1 φ H1 d v := h.mono (k.stay R.rel.st) w.mono (fun _ _ h => h)
theorem DvL.step {d : List D} {v : List V} (h : DvL Γ ω φ H d v) (R : SR Γ φ G fs ω0 H0 σ ρ ω t H) (w : Wx ω H ω1) (k : Keep ω H H1) : DvL Γ ω1 φ H1 d v := h.mono (k.stay R.rel.st) w.mono (fun _ _ h => h)
theorem SR.st (R : SR Γ φ G fs ω0 H0 σ ρ ω t H) : StRel Γ ω t H := R.rel.st
end
section
variable {Z : Sn} {a b e : Expr} {ma mb m : CE} {pos : Pos}
theorem SE.so (h : SE Z e m) : SO Z e m := fun X W G φ fs B => pe_imp (h X W G φ fs B) fun σ H Q hq => by
  obtain ⟨ω0, H0, ρ, ω, t, R, A⟩ := hq
  exact ⟨ω0, H0, ρ, ω, t, R, A.imp (fun d ω' t' H' _ _ _ q v hv => q v (.pl hv)) fun _ _ _ e => e⟩
theorem se_bin {op : Bop} (ha : SE Z a ma) (hb : SE Z b mb) : SE Z (.BinOp a (opB op) b pos) (eBin op ma mb) := by
  intro X W G φ fs B
  refine pe_imp (pe_fz (pe_op (opr_bin op) (ha X W G φ fs B) (hb X W G φ fs B))) fun σ H Q h => ?_
  obtain ⟨ω0, H0, ρ, ω, t, R, A⟩ := h
  refine tV_bind R A fun x v ω1 t1 H1 R1 w1 k1 hv A1 => ?_
  refine tV_bind R1 A1 fun y u ω2 t2 H2 R2 w2 k2 hu A2 => ?_
  obtain ⟨z, hz, A3⟩ := aft_opt1 A2
  rw [B.eK]
  exact bin_ok hz (hv.step R1 w2 k2) hu R2.st A3
end
end Pv
end

section
set_option Elab.async false
set_option linter.all false
set_option maxRecDepth 100000
set_option maxHeartbeats 4000000
/-! constants, names, comparisons, tests -/
namespace Pv
open PySem PySem.Spec PyProof.Rows L2
section
variable {Γ : Gam} {φ : List Fr1} {ω : Wd} {H : Hp}
theorem SqF.sql {K : PySem.W.Frag} {a : Addr} {vs : List V} (h : SqF H a vs) : SqL K H a vs := .inl h.rd
mutual
theorem Dv.dp : ∀ {d : D} {v : V} {p : PyData}, Dv Γ ω φ H d v → d.py = some p → Dp Γ.K H v p
  | _, _, _, .non, h => by
    cases h
    exact .non
  | _, _, _, .bl b, h => by
    cases h
    exact .bl b
  | _, _, _, .int i, h => by
    cases h
    exact .int i
  | _, _, _, .str s, h => by
    cases h
    exact .str s
  | _, _, _, .tup (ds := ds) e k, h => by
    unfold D.py at h
    cases q : D.pys ds with
    | none =>
      rw [q] at h
      cases h
    | some ps =>
      rw [q] at h
      cases h
      exact .tup e (DvL.dp k q)
  | _, _, _, .lst (ds := ds) e k, h => by
    unfold D.py at h
    cases q : D.pys ds with
    | none =>
      rw [q] at h
      cases h
    | some ps =>
      rw [q] at h
      cases h
      exact .lst e.sql (DvL.dp k q)
  | _, _, _, .scr _ _, h => by cases h
  | _, _, _, .ty _, h => by cases h
  | _, _, _, .cls _, h => by cases h
  | _, _, _, .err0 _ _, h => by cases h
  | _, _, _, .err1 _ _ _ _, h => by cases h
  | _, _, _, .lam _ _ _ _ _, h => by cases h
  | _, _, _, .draw _, h => by cases h
theorem DvL.dp : ∀ {ds : List D} {vs : List V} {ps : List PyData}, DvL Γ ω φ H ds vs → D.pys ds = some ps → DpAll Γ.K H vs ps
  | _, _, _, .nil, h => by
    cases h
    exact .nil
  | _, _, _, .cons (d := d) (ds := ds) k ks, h => by
    unfold D.pys at h
    cases q : d.py with
    | none =>
      rw [q] at h
      cases h
    | some p =>
      rw [q] at h
      cases q2 : D.pys ds with
      | none =>
        rw [q2] at h
        cases h
      | some ps =>
        rw [q2] at h
        cases h
        exact .cons (Dv.dp k q) (DvL.dp ks q2)
end
theorem Dt.dp {d : D} {v : V} {p : PyData} (k : Dt Γ ω φ H d v) (h : d.py = some p) : Dp Γ.K H v p := by
  cases k with
  | pl k => exact k.dp h
  | @own a vs ds e n ks =>
    unfold D.py at h
    cases q : D.pys ds with
    | none =>
      rw [q] at h
      cases h
    | some ps =>
      rw [q] at h
      cases h
      exact .lst (.inl (.of e)) (DvL.dp ks q)
end
def opC : Cop → CmpOp
  | .eq => .Eq
  | .ne => .NotEq
  | .lt => .Lt
  | .le => .LtE
  | .gt => .Gt
  | .ge => .GtE
  | .isin => .In
  | .notin => .NotIn
  | .isN => .Is
  | .notN => .IsNot
def rCmp (K : PySem.W.Frag) : Cop → R2
  | .eq => rEqD K
  | .ne => rNeD K
  | .lt => rI0 fun i j => .bl (decide (i < j))
  | .le => rI0 fun i j => .bl (decide (i ≤ j))
  | .gt => rI0 fun i j => .bl (decide (j < i))
  | .ge => rI0 fun i j => .bl (decide (j ≤ i))
  | .isin => fun x y H Q => ∃ (c : Nat) (z : Str), x = .str ⟨#[c]⟩ ∧ y = .str z ∧ Q (.bl (decide (c ∈ z.cps.toList))) H
  | .notin => fun x y H Q => ∃ (c : Nat) (z : Str), x = .str ⟨#[c]⟩ ∧ y = .str z ∧ Q (.bl (!decide (c ∈ z.cps.toList))) H
  | .isN => fun x y H Q => y = .non ∧ Q (.bl (decide (x = .non))) H
  | .notN => fun x y H Q => y = .non ∧ Q (.bl (!decide (x = .non))) H
theorem opr_cmp {X : Cx} (hu : X.A.units + 64 < cLine) (op : Cop) : OpR X (compareOp (opC op)) (rCmp X.K op) := by
  cases op with
  | eq => exact op_eqD hu
  | ne => exact op_neD hu
  | lt => exact op_lt
  | le => exact op_le
  | gt => exact op_gt
  | ge => exact op_ge
  | isin => exact op_in_sign
  | notin => exact op_notIn_sign
  | isN => exact op_isN
  | notN => exact op_notN
theorem oneSign_eq {s : Str} {c : Nat} (h : oneSign s = some c) : s = ⟨#[c]⟩ := by
  obtain ⟨a⟩ := s
  unfold oneSign at h
  split at h
  · rename_i c' e
    cases h
    have : a = #[c] := by
      apply Array.toList_inj.mp
      exact e
    rw [this]
  · cases h
theorem shapedD_of {d : D} {p : PyData} (h : shapedD d = some p) : d.py = some p ∧ SeqAt.shaped p = true := by
  unfold shapedD at h
  cases q : d.py with
  | none =>
    rw [q] at h
    cases h
  | some p' =>
    rw [q] at h
    simp only [Option.bind_some] at h
    split at h
    · cases h
      exact ⟨rfl, by assumption⟩
    · cases h
section
variable {Γ : Gam} {φ : List Fr1} {ω : Wd} {H : Hp} {t : S0} {E : XK} {Q : VK}
theorem isN_of {d : D} {v : V} (k : Dt Γ ω φ H d v) : decide (v = .non) = isNon d := by
  cases k with
  | pl k => cases k <;> rfl
  | own => rfl
theorem cmp_ok {op : Cop} {x y : D} {b : Bool} {v u : V} (h : vcmp op x y = some b) (hx : Dt Γ ω φ H x v) (hy : Dt Γ ω φ H y u) (q : Q (.bl b) H) : rCmp Γ.K op v u H Q := by
  cases op with
  | eq =>
    change ((shapedD x).bind fun p => (shapedD y).map fun q => PyData.eqv p q) = some b at h
    cases e1 : shapedD x with
    | none =>
      rw [e1] at h
      cases h
    | some p =>
      cases e2 : shapedD y with
      | none =>
        rw [e1, e2] at h
        cases h
      | some p2 =>
        rw [e1, e2] at h
        cases h
        obtain ⟨a1, a2⟩ := shapedD_of e1
        obtain ⟨b1, b2⟩ := shapedD_of e2
        exact ⟨p, p2, hx.dp a1, hy.dp b1, a2, b2, q⟩
  | ne =>
    change ((shapedD x).bind fun p => (shapedD y).map fun q => !PyData.eqv p q) = some b at h
    cases e1 : shapedD x with
    | none =>
      rw [e1] at h
      cases h
    | some p =>
      cases e2 : shapedD y with
      | none =>
        rw [e1, e2] at h
        cases h
      | some p2 =>
        rw [e1, e2] at h
        cases h
        obtain ⟨a1, a2⟩ := shapedD_of e1
        obtain ⟨b1, b2⟩ := shapedD_of e2
        exact ⟨p, p2, hx.dp a1, hy.dp b1, a2, b2, q⟩
  | lt =>
    cases x <;> cases y <;> cases h
    cases hx with
    | pl hx =>
      cases hy with
      | pl hy =>
        cases hx
        cases hy
        exact ⟨_, _, rfl, rfl, q⟩
  | le =>
    cases x <;> cases y <;> cases h
    cases hx with
    | pl hx =>
      cases hy with
      | pl hy =>
        cases hx
        cases hy
        exact ⟨_, _, rfl, rfl, q⟩
  | gt =>
    cases x <;> cases y <;> cases h
    cases hx with
    | pl hx =>
      cases hy with
      | pl hy =>
        cases hx
        cases hy
        exact ⟨_, _, rfl, rfl, q⟩
  | ge =>
    cases x <;> cases y <;> cases h
    cases hx with
    | pl hx =>
      cases hy with
      | pl hy =>
        cases hx
        cases hy
        exact ⟨_, _, rfl, rfl, q⟩
  | isin =>
    cases x <;> cases y <;> try cases h
    rename_i s z
    cases hx with
    | pl hx =>
      cases hy with
      | pl hy =>
        cases hx
        cases hy
        change ((oneSign s).map fun c => decide (c ∈ z.cps.toList)) = some b at h
        cases e : oneSign s with
        | none =>
          rw [e] at h
          cases h
        | some c =>
          rw [e] at h
          cases h
          exact ⟨c, z, by rw [oneSign_eq e], rfl, q⟩
  | notin =>
    cases x <;> cases y <;> try cases h
    rename_i s z
    cases hx with
    | pl hx =>
      cases hy with
      | pl hy =>
        cases hx
        cases hy
        change ((oneSign s).map fun c => !decide (c ∈ z.cps.toList)) = some b at h
        cases e : oneSign s with
        | none =>
          rw [e] at h
          cases h
        | some c =>
          rw [e] at h
          cases h
          exact ⟨c, z, by rw [oneSign_eq e], rfl, q⟩
  | isN =>
    cases y <;> try cases h
    cases hy with
    | pl hy =>
      cases hy
      exact ⟨rfl, by rw [isN_of hx]; exact q⟩
  | notN =>
    cases y <;> try cases h
    cases hy with
    | pl hy =>
      cases hy
      exact ⟨rfl, by rw [isN_of hx]; exact q⟩
end
section
variable {Z : Sn} {a b d e : Expr} {ma mb md m : CE} {pos p : Pos} {j : Nat}
theorem SX.units {X : Cx} {W : WX} {G : List (Fr1 × L2.St)} {φ : List Fr1} {fs : List Env1} (B : SX Z X W G φ fs) : X.A.units + 64 < cLine := by
  have := B.room.un
  omega
/-- a value that needs no heap -/
theorem tv_pure {Γ : Gam} {φ : List Fr1} {G : List (Fr1 × L2.St)} {fs : List Env1} {W : WX} {σ : L2.St} {H : Hp} {Q : VK} {d : D} {v : V} (hv : ∀ ω φ H, Dv Γ ω φ H d v) (h : tV Γ φ G fs W (fun _ => pure d) σ H Q) : Q v H := by
  obtain ⟨ω0, H0, ρ, ω, t, R, A⟩ := h
  exact Aft.now (a := d) A R.st v (hv _ _ _)
theorem se_int {i : Int} : SE Z (.Constant (.int i) j pos) (eK (.int i)) := fun X W G φ fs B => pe_imp pe_int fun σ H Q h => tv_pure (fun _ _ _ => .int i) h
theorem se_str {s : Str} : SE Z (.Constant (.str s) j pos) (eK (.str s)) := fun X W G φ fs B => pe_imp pe_str fun σ H Q h => tv_pure (fun _ _ _ => .str s) h
theorem se_bl {k : Bool} : SE Z (.Constant (.bool k) j pos) (eK (.bl k)) := fun X W G φ fs B => pe_imp pe_bl fun σ H Q h => tv_pure (fun _ _ _ => .bl k) h
theorem se_non : SE Z (.Constant .none j pos) (eK .non) := fun X W G φ fs B => pe_imp pe_non fun σ H Q h => tv_pure (fun _ _ _ => .non) h
/-- a name of the frame -/
structure Nm (Z : Sn) (i : Nat) (x : Str) : Prop where
  at_ : Z.N[i]? = some x
  vis : Vis Z.sc x
  d1 : (x == ("__debug__" : Str)) = false
  d2 : (x == ("__classdict__" : Str)) = false
def nmB (N : List Str) (sc : Scope) (i : Nat) (x : Str) : Bool := decide (N[i]? = some x) && ((match sc.names.lookup x with | some .local => true | some .cell => true | some .free => true | _ => false) && (!(x == ("__debug__" : Str)) && !(x == ("__classdict__" : Str))))
theorem nm_by {i : Nat} {x : Str} (h : nmB Z.N Z.sc i x = true) : Nm Z i x := by
  unfold nmB at h
  simp only [Bool.and_eq_true, decide_eq_true_eq, Bool.not_eq_true'] at h
  obtain ⟨h1, h2, h3, h4⟩ := h
  refine ⟨h1, ?_, h3, h4⟩
  split at h2
  · exact .inl (by assumption)
  · exact .inr (.inl (by assumption))
  · exact .inr (.inr (by assumption))
  · cases h2
theorem se_var {i : Nat} {x : Str} (n : Nm Z i x) : SE Z (.Name x pos) (eVar i) := by
  intro X W G φ fs B
  refine pe_imp (pe_var (i := i) (by rw [B.eN]; exact n.at_) (by rw [B.eS]; exact n.vis) n.d1 n.d2) fun σ H Q h => ?_
  obtain ⟨ω0, H0, ρ, ω, t, R, A⟩ := h
  unfold eVar at A
  cases e : ρ[i]? with
  | none =>
    rw [e] at A
    exact A.elim
  | some s =>
    rw [e] at A
    cases s with
    | pl d =>
      obtain ⟨v, hv, dv⟩ := R.rel.slot i d e
      exact ⟨v, hv, Aft.now (a := d) A R.st v dv⟩
    | _ => exact A.elim
theorem so_own {i : Nat} {x : Str} (n : Nm Z i x) : SO Z (.Name x pos) (eOwn i) := by
  intro X W G φ fs B
  refine pe_imp (pe_var (i := i) (by rw [B.eN]; exact n.at_) (by rw [B.eS]; exact n.vis) n.d1 n.d2) fun σ H Q h => ?_
  obtain ⟨ω0, H0, ρ, ω, t, R, A⟩ := h
  unfold eOwn at A
  cases e : ρ[i]? with
  | none =>
    rw [e] at A
    exact A.elim
  | some s =>
    rw [e] at A
    cases s with
    | own xs =>
      obtain ⟨a, vs, hv, ha, dv, _, nw⟩ := R.rel.own i xs e
      exact ⟨_, hv, Aft.now (a := D.lst xs) A R.st _ (.own ha nw dv)⟩
    | _ => exact A.elim
/-- a name of the module -/
structure GlD (Γ : Gam) (x : Str) (d : D) : Prop where
  ex : ∃ u v, Γ.mg x = some u ∧ RelV v u ∧ ∀ ω φ H, Dv Γ ω φ H d v
def glB (sc : Scope) (x : Str) : Bool := (match sc.names.lookup x with | some .globalImplicit => true | _ => false) && (!(x == ("__debug__" : Str)) && !(x == ("__name__" : Str)))
theorem gl_by {x : Str} (h : glB Z.sc x = true) : Z.sc.names.lookup x = some .globalImplicit ∧ (x == ("__debug__" : Str)) = false ∧ x ≠ "__name__" := by
  unfold glB at h
  simp only [Bool.and_eq_true, Bool.not_eq_true'] at h
  obtain ⟨h1, h2, h3⟩ := h
  split at h1
  · exact ⟨by assumption, h2, fun z => by rw [z] at h3; simp at h3⟩
  · cases h1
theorem SX.gl {X : Cx} {W : WX} {G : List (Fr1 × L2.St)} {φ : List Fr1} {fs : List Env1} (B : SX Z X W G φ fs) {x : Str} (h : glB Z.sc x = true) : Gl X x := by
  show X.env.scope.names.lookup x = _
  rw [B.eS]
  exact (gl_by h).1
theorem se_glob {x : Str} {v : D} (g : GlD Z.Γ x v) (h : glB Z.sc x = true) : SE Z (.Name x pos) (eK v) := by
  intro X W G φ fs B
  obtain ⟨u, w, hm, r, hd⟩ := g.ex
  exact pe_imp (pe_glob (B.gl h) (by rw [B.eM]; exact hm) r (gl_by h).2.1) fun σ H Q h => tv_pure hd h
theorem se_ty {x : Str} {T : String} (hm : Z.Γ.mg x = none) (hv : bootBuiltins x = some (.type T)) (h : glB Z.sc x = true) : SE Z (.Name x pos) (eK (.ty T)) := by
  intro X W G φ fs B
  exact pe_imp (pe_bltn (B.gl h) (by rw [B.eM]; exact hm) hv (v := .ty T) rfl (gl_by h).2.2 (gl_by h).2.1) fun σ H Q h => tv_pure (fun _ _ _ => .ty T) h
theorem se_neg (ha : SE Z a ma) : SE Z (.UnaryOp .USub a pos) (eNeg ma) := by
  intro X W G φ fs B
  refine pe_imp (pe_un un_neg (ha X W G φ fs B)) fun σ H Q h => ?_
  obtain ⟨ω0, H0, ρ, ω, t, R, A⟩ := h
  refine tV_bind R A fun x v ω1 t1 H1 R1 w1 k1 hv A1 => ?_
  cases hv <;> try exact A1.elim
  exact ⟨_, rfl, Aft.now A1 R1.st _ (.int _)⟩
theorem cmp_run {X : Cx} {W : WX} {G : List (Fr1 × L2.St)} {φ : List Fr1} {fs : List Env1} {op : Cop} {σ : L2.St} {H : Hp} {Q : VK} (B : SX Z X W G φ fs) (h : tV Z.Γ φ G fs W (eCmp op ma mb (Z.c fs)) σ H Q) :
    tOp (rCmp X.K op) (tO Z.Γ φ G fs W (ma (Z.c fs))) (tO Z.Γ φ G fs W (mb (Z.c fs))) σ H Q := by
  obtain ⟨ω0, H0, ρ, ω, t, R, A⟩ := h
  refine tO_bind R A fun x v ω1 t1 H1 R1 w1 k1 hv A1 => ?_
  refine tO_bind R1 A1 fun y u ω2 t2 H2 R2 w2 k2 hu A2 => ?_
  obtain ⟨z, hz, A3⟩ := aft_opt A2
  rw [B.eK]
  exact cmp_ok hz (hv.step w2 k2 R1.st) hu (Aft.now (a := D.bl z) A3 R2.st _ (.bl z))
theorem se_cmp {op : Cop} (ha : SO Z a ma) (hb : SO Z b mb) (hm : behindInMarks (opC op) b = false) : SE Z (.Compare a [opC op] [b] pos) (eCmp op ma mb) :=
  fun X W G φ fs B => pe_imp (pe_cmpR (opr_cmp B.units op) (ha X W G φ fs B) (hb X W G φ fs B) hm) fun σ H Q h => cmp_run B h
/-- a value's truth -/
theorem tv_of_tbl {Γ : Gam} {φ : List Fr1} {G : List (Fr1 × L2.St)} {fs : List Env1} {W : WX} {σ : L2.St} {H : Hp} {Q : Bool → Hp → Prop} {f : Env1 → M D} (h : tBl Γ φ G fs W (fun ρ => f ρ >>= vb) σ H Q) : tV Γ φ G fs W f σ H fun x H1 => ∃ k, x = .bl k ∧ Q k H1 := by
  obtain ⟨ω0, H0, ρ, ω, t, R, A⟩ := h
  refine tV_bind R A fun x v ω1 t1 H1 R1 w1 k1 hv A1 => ?_
  obtain ⟨k, hk, A2⟩ := aft_opt1 A1
  cases x <;> try cases hk
  cases hv
  exact ⟨k, rfl, Aft.now A2 R1.st⟩
theorem st_val (h : SE Z e m) (he : ∀ env whole, isTrue e env whole = (do let v ← whole; standAt e.pos; holding [v] (truthy v))) : ST Z e m :=
  fun X W G φ fs B => pt_imp (pt_val (h X W G φ fs B) fun whole => he X.env whole) fun σ H Q q => tv_of_tbl q
theorem st_cmp {op : Cop} (ha : SO Z a ma) (hb : SO Z b mb) (hm : behindInMarks (opC op) b = false) : ST Z (.Compare a [opC op] [b] pos) (eCmp op ma mb) :=
  fun X W G φ fs B => pt_imp (pt_cmpR (opr_cmp B.units op) (ha X W G φ fs B) (hb X W G φ fs B) hm) fun σ H Q h => cmp_run B (tv_of_tbl h)
end
/-! the rules of M -/
theorem M.assoc {α β γ : Type} (m : M α) (f : α → M β) (g : β → M γ) : ((m >>= f) >>= g) = (m >>= fun x => f x >>= g) := by
  funext t
  show M.bind (M.bind m f) g t = M.bind m (fun x => M.bind (f x) g) t
  unfold M.bind
  cases m t <;> rfl
theorem M.pure_bind {α β : Type} (a : α) (f : α → M β) : ((pure a : M α) >>= f) = f a := rfl
theorem vb_bl (b : Bool) : vb (.bl b) = pure b := rfl
section
variable {Z : Sn} {a b d e : Expr} {ma mb md m : CE} {pos p : Pos} {rest : List Expr}
theorem not_vb (c : Ctx) (ρ : Env1) : (eNot ma c ρ >>= vb) = (ma c ρ >>= vb >>= fun t => pure (!t)) := by
  unfold eNot
  simp only [M.assoc, M.pure_bind, vb_bl]
theorem st_not (ha : ST Z a ma) : ST Z (.UnaryOp .Not a pos) (eNot ma) := by
  refine fun X W G φ fs B => pt_imp (pt_not (ha X W G φ fs B)) fun σ H Q h => ?_
  obtain ⟨ω0, H0, ρ, ω, t, R, A⟩ := h
  have A2 : Aft Z.Γ ω φ H ((ma (Z.c fs) ρ >>= vb >>= fun t => pure (!t)) t) (fun b ω' t' H' => Q b H') fun c d H' => W c d σ H' := by
    rw [← not_vb]
    exact A
  exact tBl_bind (g := fun ρ => ma (Z.c fs) ρ >>= vb) R A2 fun k ω1 t1 H1 R1 w1 k1 A1 => Aft.now A1 R1.st
theorem se_not (ha : SE Z a ma) : SE Z (.UnaryOp .Not a pos) (eNot ma) := by
  refine fun X W G φ fs B => pe_imp (pe_not (ha X W G φ fs B)) fun σ H Q h => ?_
  obtain ⟨ω0, H0, ρ, ω, t, R, A⟩ := h
  have A2 : Aft Z.Γ ω φ H ((ma (Z.c fs) ρ >>= vb >>= fun t => pure (.bl (!t))) t) (QV Z.Γ φ Q) fun c d H' => W c d σ H' := by
    rw [M.assoc]
    exact A
  refine tv_of_tbl (Q := fun k H1 => Q (.bl (!k)) H1) ?_
  exact tBl_bind (g := fun ρ => ma (Z.c fs) ρ >>= vb) R A2 fun k ω1 t1 H1 R1 w1 k1 A1 => Aft.now (a := D.bl (!k)) A1 R1.st _ (.bl _)
/-- within a chain of and, or -/
def SW (Z : Sn) (e : Expr) (m : CE) : Prop := ∀ X W G φ fs, SX Z X W G φ fs → PW X e (tBl Z.Γ φ G fs W fun ρ => m (Z.c fs) ρ >>= vb)
theorem SW.st {op : PySem.BoolOp} {es : List Expr} (h : SW Z (.BoolOp op es pos) m) : ST Z (.BoolOp op es pos) m := fun X W G φ fs B => (h X W G φ fs B).pt
end
end Pv
end

section
set_option Elab.async false
set_option linter.all false
set_option maxRecDepth 100000
set_option maxHeartbeats 4000000
/-! and, or, chains, displays, places, slices -/
namespace Pv
open PySem PySem.Spec PyProof.Rows L2
section
variable {Z : Sn} {a b d e : Expr} {ma mb md m : CE} {pos p p2 : Pos} {es rest : List Expr} {ml : CL} {op : PySem.BoolOp}
theorem and_vb (c : Ctx) (ρ : Env1) : (eAnd ma mb c ρ >>= vb) = (ma c ρ >>= vb >>= fun t => if t then mb c ρ >>= vb else pure false) := by
  unfold eAnd
  simp only [M.assoc]
  congr 1
  funext x
  congr 1
  funext t
  cases t <;> rfl
theorem or_vb (c : Ctx) (ρ : Env1) : (eOr ma mb c ρ >>= vb) = (ma c ρ >>= vb >>= fun t => if t then pure true else mb c ρ >>= vb) := by
  unfold eOr
  simp only [M.assoc]
  congr 1
  funext x
  congr 1
  funext t
  cases t <;> rfl
theorem sw_one (ha : ST Z a ma) : SW Z (.BoolOp op [a] pos) ma := fun X W G φ fs B => by
  cases op with
  | And => exact pw_and1 (ha X W G φ fs B)
  | Or => exact pw_or1 (ha X W G φ fs B)
theorem sw_and (ha : ST Z a ma) (hb : SW Z (.BoolOp .And (b :: rest) pos) mb) : SW Z (.BoolOp .And (a :: b :: rest) pos) (eAnd ma mb) := by
  refine fun X W G φ fs B => pw_imp (pw_and (ha X W G φ fs B) (hb X W G φ fs B)) fun σ H Q h => ?_
  obtain ⟨ω0, H0, ρ, ω, t, R, A⟩ := h
  have A2 : Aft Z.Γ ω φ H ((ma (Z.c fs) ρ >>= vb >>= fun t => if t then mb (Z.c fs) ρ >>= vb else pure false) t) (fun b ω' t' H' => Q b H') fun c d H' => W c d σ H' := by
    rw [← and_vb]
    exact A
  refine tBl_bind (g := fun ρ => ma (Z.c fs) ρ >>= vb) R A2 fun k ω1 t1 H1 R1 w1 k1 A1 => ?_
  cases k with
  | true => exact ⟨ω0, H0, ρ, ω1, t1, R1, A1⟩
  | false => exact Aft.now (a := false) A1 R1.st
theorem sw_or (ha : ST Z a ma) (hb : SW Z (.BoolOp .Or (b :: rest) pos) mb) : SW Z (.BoolOp .Or (a :: b :: rest) pos) (eOr ma mb) := by
  refine fun X W G φ fs B => pw_imp (pw_or (ha X W G φ fs B) (hb X W G φ fs B)) fun σ H Q h => ?_
  obtain ⟨ω0, H0, ρ, ω, t, R, A⟩ := h
  have A2 : Aft Z.Γ ω φ H ((ma (Z.c fs) ρ >>= vb >>= fun t => if t then pure true else mb (Z.c fs) ρ >>= vb) t) (fun b ω' t' H' => Q b H') fun c d H' => W c d σ H' := by
    rw [← or_vb]
    exact A
  refine tBl_bind (g := fun ρ => ma (Z.c fs) ρ >>= vb) R A2 fun k ω1 t1 H1 R1 w1 k1 A1 => ?_
  cases k with
  | true => exact Aft.now (a := true) A1 R1.st
  | false => exact ⟨ω0, H0, ρ, ω1, t1, R1, A1⟩
theorem se_one (ha : SE Z a ma) : SE Z (.BoolOp op [a] pos) ma := fun X W G φ fs B => pe_one (ha X W G φ fs B)
theorem se_and (ha : SE Z a ma) (hb : SE Z (.BoolOp .And (b :: rest) pos) mb) : SE Z (.BoolOp .And (a :: b :: rest) pos) (eAnd ma mb) := by
  refine fun X W G φ fs B => pe_imp (pe_and (ha X W G φ fs B) (hb X W G φ fs B)) fun σ H Q h => ?_
  obtain ⟨ω0, H0, ρ, ω, t, R, A⟩ := h
  refine tV_bind R A fun x v ω1 t1 H1 R1 w1 k1 hv A1 => ?_
  obtain ⟨k, hk, A2⟩ := aft_opt A1
  cases x <;> try cases hk
  cases hv
  refine ⟨k, rfl, ?_⟩
  cases k with
  | true => exact ⟨ω0, H0, ρ, ω1, t1, R1, A2⟩
  | false => exact Aft.now (a := D.bl false) A2 R1.st _ (.bl _)
theorem se_or (ha : SE Z a ma) (hb : SE Z (.BoolOp .Or (b :: rest) pos) mb) : SE Z (.BoolOp .Or (a :: b :: rest) pos) (eOr ma mb) := by
  refine fun X W G φ fs B => pe_imp (pe_or (ha X W G φ fs B) (hb X W G φ fs B)) fun σ H Q h => ?_
  obtain ⟨ω0, H0, ρ, ω, t, R, A⟩ := h
  refine tV_bind R A fun x v ω1 t1 H1 R1 w1 k1 hv A1 => ?_
  obtain ⟨k, hk, A2⟩ := aft_opt A1
  cases x <;> try cases hk
  cases hv
  refine ⟨k, rfl, ?_⟩
  cases k with
  | true => exact Aft.now (a := D.bl true) A2 R1.st _ (.bl _)
  | false => exact ⟨ω0, H0, ρ, ω1, t1, R1, A2⟩
theorem se_if {t : Expr} {mt : CE} (ht : ST Z t mt) (ha : SE Z a ma) (hb : SE Z b mb) : SE Z (.IfExp t a b pos) (eIf mt ma mb) := by
  refine fun X W G φ fs B => pe_imp (pe_ifExp (ht X W G φ fs B) (ha X W G φ fs B) (hb X W G φ fs B)) fun σ H Q h => ?_
  obtain ⟨ω0, H0, ρ, ω, t, R, A⟩ := h
  have A2 : Aft Z.Γ ω φ H ((mt (Z.c fs) ρ >>= vb >>= fun t => if t then ma (Z.c fs) ρ else mb (Z.c fs) ρ) t) (QV Z.Γ φ Q) fun c d H' => W c d σ H' := by
    rw [M.assoc]
    exact A
  refine tBl_bind (g := fun ρ => mt (Z.c fs) ρ >>= vb) R A2 fun k ω1 t1 H1 R1 w1 k1 A1 => ?_
  cases k with
  | true => exact ⟨ω0, H0, ρ, ω1, t1, R1, A1⟩
  | false => exact ⟨ω0, H0, ρ, ω1, t1, R1, A1⟩
theorem chain_run {X : Cx} {W : WX} {G : List (Fr1 × L2.St)} {φ : List Fr1} {fs : List Env1} {o1 o2 : Cop} {σ : L2.St} {H : Hp} {Q : VK} (B : SX Z X W G φ fs) (h : tV Z.Γ φ G fs W (eChain o1 o2 ma mb md (Z.c fs)) σ H Q) :
    tChain (rCmp X.K o1) (rCmp X.K o2) (tV Z.Γ φ G fs W (ma (Z.c fs))) (tV Z.Γ φ G fs W (mb (Z.c fs))) (tV Z.Γ φ G fs W (md (Z.c fs))) σ H Q := by
  obtain ⟨ω0, H0, ρ, ω, t, R, A⟩ := h
  refine tV_bind R A fun x v ω1 t1 H1 R1 w1 k1 hv A1 => ?_
  refine tV_bind R1 A1 fun y u ω2 t2 H2 R2 w2 k2 hu A2 => ?_
  obtain ⟨z, hz, A3⟩ := aft_opt A2
  rw [B.eK]
  refine cmp_ok hz (.pl (hv.step R1 w2 k2)) (.pl hu) ⟨z, rfl, ?_⟩
  cases z with
  | false => exact Aft.now (a := D.bl false) A3 R2.st _ (.bl _)
  | true =>
    refine tV_bind R2 A3 fun z u' ω4 t4 H4 R4 w4 k4 hz A4 => ?_
    obtain ⟨k, hk, A5⟩ := aft_opt A4
    exact cmp_ok hk (.pl (hu.step R2 w4 k4)) (.pl hz) (Aft.now (a := D.bl k) A5 R4.st _ (.bl _))
theorem se_chain {o1 o2 : Cop} (ha : SE Z a ma) (hb : SE Z b mb) (hd : SE Z d md) (hm : lastMarks [opC o1, opC o2] [b, d] = false) : SE Z (.Compare a [opC o1, opC o2] [b, d] pos) (eChain o1 o2 ma mb md) :=
  fun X W G φ fs B => pe_imp (pe_chain (opr_cmp B.units o1) (opr_cmp B.units o2) (ha X W G φ fs B) (hb X W G φ fs B) (hd X W G φ fs B) hm) fun σ H Q h => chain_run B h
theorem st_chain {o1 o2 : Cop} (ha : SE Z a ma) (hb : SE Z b mb) (hd : SE Z d md) (hm : lastMarks [opC o1, opC o2] [b, d] = false) : ST Z (.Compare a [opC o1, opC o2] [b, d] pos) (eChain o1 o2 ma mb md) :=
  fun X W G φ fs B => pt_imp (pt_chain (opr_cmp B.units o1) (opr_cmp B.units o2) (ha X W G φ fs B) (hb X W G φ fs B) (hd X W G φ fs B) hm) fun σ H Q h => chain_run B (tv_of_tbl h)
/-! lists of expressions -/
theorem sl_nil : SL Z [] lNil := fun X W G φ fs B => pa_imp pa_nil fun σ H Q h => by
  obtain ⟨ω0, H0, ρ, ω, t, R, A⟩ := h
  exact Aft.now (a := ([] : List D)) A R.st _ .nil
theorem sl_cons (he : SE Z e m) (hr : SL Z es ml) (hs : ∀ env, starEach (e :: es) env = (false, eval e env) :: starEach es env) : SL Z (e :: es) (lCons m ml) := by
  refine fun X W G φ fs B => pa_imp (pa_cons (he X W G φ fs B) (hr X W G φ fs B) (hs X.env)) fun σ H Q h => ?_
  obtain ⟨ω0, H0, ρ, ω, t, R, A⟩ := h
  refine tV_bind R A fun x v ω1 t1 H1 R1 w1 k1 hv A1 => ?_
  refine tL_bind R1 A1 fun y u ω2 t2 H2 R2 w2 k2 hu A2 => ?_
  exact Aft.now (a := x :: y) A2 R2.st _ (.cons (hv.step R1 w2 k2) hu)
theorem slo_nil : SLo Z [] lNil := fun X W G φ fs B => pa_imp pa_nil fun σ H Q h => by
  obtain ⟨ω0, H0, ρ, ω, t, R, A⟩ := h
  exact Aft.now (a := ([] : List D)) A R.st _ .nil
theorem slo_cons (he : SO Z e m) (hr : SLo Z es ml) (hs : ∀ env, starEach (e :: es) env = (false, eval e env) :: starEach es env) : SLo Z (e :: es) (lCons m ml) := by
  refine fun X W G φ fs B => pa_imp (pa_cons (he X W G φ fs B) (hr X W G φ fs B) (hs X.env)) fun σ H Q h => ?_
  obtain ⟨ω0, H0, ρ, ω, t, R, A⟩ := h
  refine tO_bind R A fun x v ω1 t1 H1 R1 w1 k1 hv A1 => ?_
  refine tLo_bind R1 A1 fun y u ω2 t2 H2 R2 w2 k2 hu A2 => ?_
  exact Aft.now (a := x :: y) A2 R2.st _ (.cons (hv.step w2 k2 R1.st) hu)
theorem se_tup {x1} (h : SL Z es ml) : SE Z (.Tuple es x1 pos) (eTup ml) := by
  refine fun X W G φ fs B => pe_imp (pe_tup (h X W G φ fs B)) fun σ H Q h => ?_
  obtain ⟨ω0, H0, ρ, ω, t, R, A⟩ := h
  refine tL_bind R A fun xs vs ω1 t1 H1 R1 w1 k1 hv A1 => ?_
  split at A1
  · rename_i hz
    rw [hv.length] at hz
    exact ⟨Nat.le_trans hz (by rw [sizeLine_eq]; decide), fun p hp => aft_tup A1 R1.st hv hp⟩
  · exact A1.elim
theorem se_lst (h : SL Z es ml) : SE Z (.List es pos) (eLst ml) := by
  refine fun X W G φ fs B => pe_imp (pe_fz (pe_lst (h X W G φ fs B))) fun σ H Q h => ?_
  obtain ⟨ω0, H0, ρ, ω, t, R, A⟩ := h
  refine tL_bind R A fun xs vs ω1 t1 H1 R1 w1 k1 hv A1 => ?_
  split at A1
  · rename_i hz
    rw [hv.length] at hz
    exact ⟨Nat.le_trans hz (by rw [sizeLine_eq]; decide), fun p hp => aft_lst A1 R1.st hv hp⟩
  · exact A1.elim
end
section
variable {Γ : Gam} {φ : List Fr1} {ω : Wd} {H : Hp} {t : S0} {E : XK} {Q : VK}
theorem atI_map {ds : List D} {vs : List V} (h : DvL Γ ω φ H ds vs) {i : Int} {d : D} (e : L2.atI ds i = some d) : ∃ v, L2.atI vs i = some v ∧ Dv Γ ω φ H d v := by
  unfold L2.atI at e ⊢
  rw [h.length] at e
  cases q : ixN vs.length i with
  | none =>
    rw [q] at e
    cases e
  | some j =>
    rw [q] at e
    exact h.get (by simpa using e)
theorem ix_ok {x y z : D} {v u : V} (h : vix x y = some z) (hx : Dt Γ ω φ H x v) (hy : Dv Γ ω φ H y u) (q : ∀ w, Dv Γ ω φ H z w → Q w H) : rIx Γ.K v u H Q := by
  cases hx with
  | pl hx =>
    cases hx with
    | lst e1 d1 =>
      cases hy with
      | int i =>
        obtain ⟨w, hw, dw⟩ := atI_map d1 (show L2.atI _ i = some z from h)
        exact .inl ⟨_, _, _, w, rfl, rfl, e1.sql, hw, q w dw⟩
      | _ => cases h
    | tup e1 d1 =>
      cases hy with
      | int i =>
        obtain ⟨w, hw, dw⟩ := atI_map d1 (show L2.atI _ i = some z from h)
        exact .inr (.inl ⟨_, _, _, w, rfl, rfl, e1, hw, q w dw⟩)
      | _ => cases h
    | str s =>
      cases hy with
      | int i =>
        change (if s.length ≤ sizeLine then (L2.atI s.cps.toList i).map fun c => D.str ⟨#[c]⟩ else none) = some z at h
        split at h
        · rename_i hz
          cases hc : L2.atI s.cps.toList i with
          | none =>
            rw [hc] at h
            cases h
          | some c =>
            rw [hc] at h
            cases h
            exact .inr (.inr ⟨s, i, c, rfl, rfl, hz, hc, q _ (.str _)⟩)
        · cases h
      | _ => cases h
    | _ => cases hy <;> cases h
  | own e1 n d1 =>
    cases hy with
    | int i =>
      obtain ⟨w, hw, dw⟩ := atI_map d1 (show L2.atI _ i = some z from h)
      exact .inl ⟨_, _, _, w, rfl, rfl, .inl (.of e1), hw, q w dw⟩
    | _ => cases h
def rSl (K : PySem.W.Frag) : V → Option Int → Option Int → Hp → VK → Prop := fun x lo hi H Q => (rSlL K x lo hi H Q ∨ rSlA K x lo hi H Q) ∨ rSlS x lo hi H Q
theorem sl_any {X : Cx} : SlR X (rSl X.K) := (sl_list.or sl_tupA).or sl_str
theorem cut_map {ds : List D} {vs : List V} (h : DvL Γ ω φ H ds vs) (lo hi : Option Int) : DvL Γ ω φ H (cutD ds lo hi) (cutV vs lo hi) := by
  unfold cutD cutV
  rw [h.length]
  exact (h.drop _).take _
theorem cut_all {vs : List V} {lo hi : Option Int} (h : HT.sIx vs.length 0 lo = 0 ∧ HT.sIx vs.length vs.length hi = vs.length) : cutV vs lo hi = vs := by
  unfold cutV
  rw [h.1, h.2]
  simp
theorem slice_ok {x z : D} {v : V} {lo hi : Option Int} (h : vslice x lo hi = some z) (hx : Dt Γ ω φ H x v) (s : StRel Γ ω t H) (A : Aft Γ ω φ H (.ok z t) (QV Γ φ Q) E) : rSl Γ.K v lo hi H (FzQ Q) := by
  cases hx with
  | pl hx =>
    cases hx with
    | lst e1 d1 =>
      cases h
      exact .inl (.inl ⟨_, _, rfl, e1.sql, fun p hp => aft_lst A s (cut_map d1 lo hi) hp⟩)
    | tup e1 d1 =>
      cases h
      refine .inl (.inr ⟨_, _, rfl, e1, fun c => ?_, fun _ p hp => .inl (aft_tup A s (cut_map d1 lo hi) hp)⟩)
      have k := cut_map d1 lo hi
      rw [cut_all c] at k
      exact .inl (aft_val A s (.tup e1 k))
    | str s2 =>
      change (if s2.length ≤ sizeLine then some (D.str (L2.cutS s2 lo hi)) else none) = some z at h
      split at h
      · rename_i hz
        cases h
        exact .inr ⟨s2, rfl, hz, .inl (aft_val A s (.str _))⟩
      · cases h
    | _ => cases h
  | own e1 n d1 =>
    cases h
    exact .inl (.inl ⟨_, _, rfl, .inl (.of e1), fun p hp => aft_lst A s (cut_map d1 lo hi) hp⟩)
end
section
variable {Z : Sn} {a b d e : Expr} {ma mb md m : CE} {pos p p2 : Pos}
theorem se_ix (ha : SO Z a ma) (hb : SE Z b mb) (hs : PlainIx b) : SE Z (.Subscript a b pos) (eIx ma mb) := by
  refine fun X W G φ fs B => pe_imp (pe_ix ix_seq (ha X W G φ fs B) (hb X W G φ fs B) hs) fun σ H Q h => ?_
  obtain ⟨ω0, H0, ρ, ω, t, R, A⟩ := h
  refine tO_bind R A fun x v ω1 t1 H1 R1 w1 k1 hv A1 => ?_
  refine tV_bind R1 A1 fun y u ω2 t2 H2 R2 w2 k2 hu A2 => ?_
  obtain ⟨z, hz, A3⟩ := aft_opt1 A2
  rw [B.eK]
  exact ix_ok hz (hv.step w2 k2 R1.st) hu fun w hw => Aft.now A3 R2.st w hw
/-- a slice's end -/
def tPo (Γ : Gam) (φ : List Fr1) (G : List (Fr1 × L2.St)) (fs : List Env1) (W : WX) (f : Env1 → M (Option Int)) : TO := fun σ H Q => ∃ ω0 H0 ρ ω t, SR Γ φ G fs ω0 H0 σ ρ ω t H ∧ Aft Γ ω φ H (f ρ t) (fun o ω' t' H' => Q o H') fun c d H' => W c d σ H'
def SPo (Z : Sn) (e : Option Expr) (m : CO) : Prop := ∀ X W G φ fs, SX Z X W G φ fs → PO X e (tPo Z.Γ φ G fs W (m (Z.c fs)))
theorem po_imp {X : Cx} {e : Option Expr} {t t' : TO} (h : PO X e t) (k : ∀ σ H Q, t' σ H Q → t σ H Q) : PO X e t' := ⟨fun pins s σ H Q I q => h.run pins s σ H Q I (k _ _ _ q)⟩
theorem sp_none : SPo Z none oNone := fun X W G φ fs B => po_imp po_none fun σ H Q h => by
  obtain ⟨ω0, H0, ρ, ω, t, R, A⟩ := h
  exact Aft.now (a := (none : Option Int)) A R.st
theorem sp_some (he : SE Z e m) : SPo Z (some e) (oSome m) := fun X W G φ fs B => po_imp (po_some (he X W G φ fs B)) fun σ H Q h => by
  obtain ⟨ω0, H0, ρ, ω, t, R, A⟩ := h
  refine tV_bind R A fun x v ω1 t1 H1 R1 w1 k1 hv A1 => ?_
  cases hv <;> try exact A1.elim
  rename_i i
  exact ⟨i, rfl, Aft.now (a := some i) A1 R1.st⟩
theorem tPo_bind {Γ : Gam} {φ : List Fr1} {G : List (Fr1 × L2.St)} {fs : List Env1} {W : WX} {ω0 ω : Wd} {H0 H : Hp} {σ : L2.St} {ρ : Env1} {t : S0} {β : Type} {g : Env1 → M (Option Int)} {f : Option Int → M β} {Q : β → Wd → S0 → Hp → Prop} {K : Option Int → Hp → Prop} (R : SR Γ φ G fs ω0 H0 σ ρ ω t H) (A : Aft Γ ω φ H ((g ρ >>= f) t) Q fun c d H' => W c d σ H')
    (k : ∀ b ω1 t1 H1, SR Γ φ G fs ω0 H0 σ ρ ω1 t1 H1 → Wx ω H ω1 → Keep ω H H1 → Aft Γ ω1 φ H1 (f b t1) Q (fun c d H' => W c d σ H') → K b H1) : tPo Γ φ G fs W g σ H K :=
  ⟨ω0, H0, ρ, ω, t, R, (aft_bind A).imp (fun d ω1 t1 H1 w kp s A1 => k d ω1 t1 H1 (R.step w kp s) w kp A1) fun _ _ _ e => e⟩
theorem se_slice {lo hi : Option Expr} {ml mh : CO} (ha : SO Z a ma) (hl : SPo Z lo ml) (hh : SPo Z hi mh) : SE Z (.Subscript a (.Slice lo hi none p2) pos) (eSlice ma ml mh) := by
  refine fun X W G φ fs B => pe_imp (pe_fz (pe_slice sl_any (ha X W G φ fs B) (hl X W G φ fs B) (hh X W G φ fs B))) fun σ H Q h => ?_
  obtain ⟨ω0, H0, ρ, ω, t, R, A⟩ := h
  refine tO_bind R A fun x v ω1 t1 H1 R1 w1 k1 hv A1 => ?_
  refine tPo_bind R1 A1 fun l ω2 t2 H2 R2 w2 k2 A2 => ?_
  refine tPo_bind R2 A2 fun h ω3 t3 H3 R3 w3 k3 A3 => ?_
  obtain ⟨z, hz, A4⟩ := aft_opt1 A3
  rw [B.eK]
  exact slice_ok hz ((hv.step w2 k2 R1.st).step w3 k3 R2.st) R3.st A4
end
end Pv
end

section
set_option Elab.async false
set_option linter.all false
set_option maxRecDepth 100000
set_option maxHeartbeats 4000000
/-! calls -/
namespace Pv
open PySem PySem.Spec PyProof.Rows L2
section
variable {X : Cx} {G : List (Fr1 × L2.St)} {k : Nat} {f : Addr} {fd : FuncData} {ps ks : List Str} {sp : SpG} {fl : Bool} {W : WX} {x : Str} {p pos : Pos} {e : Expr} {es : List Expr} {t tk' : TA} {kws : List Keyword} {g : List Value → List Value → List Value} {gV : List V → List V → List V}
def tCallGK (X : Cx) (fl : Bool) (G : List (Fr1 × L2.St)) (W : WX) (sp : SpG) (gV : List V → List V → List V) (t tk : TA) : TE := fun σ H Q => t σ H fun vs H1 => tk σ H1 fun zs H2 => sp (gNow X fl G σ) (gV vs zs) H2 Q fun c d H' => W c d σ H'
theorem run_GK {pins : List (Addr × Obj)} {σ : L2.St} {H : Hp} {s : Shared} {Q : VK} {us ws : List Value} {vs zs : List V} (F : FnG X.prog X.w X.K X.mg X.base k f fd ps sp) (hr : Room k X.A) (C : CtxG X G) (Fl : Flag X fl) (tk : Takes X W) (hb : KBinds X.K fd ps ks g gV) (I : Inv X pins σ H s)
    (r : Vals vs us) (rz : Vals zs ws) (h : sp (gNow X fl G σ) (gV vs zs) H Q fun c d H' => W c d σ H') : wpAny (model X.prog X.w) X.A (call (.ref f) us (ks.zip ws)) (EP X pins σ Q) X.xe s := by
  have rr := hb.rel r rz
  have hl : (g us ws).length = ps.length := by
    rw [← rr.length]
    exact F.len _ _ _ _ _ h
  exact run_G (args := ⟨us, ks.zip ws⟩) F hr C Fl tk I (hb.to s us ws I.kIn hl) rr h
theorem pe_callGK (F : FnG X.prog X.w X.K X.mg X.base k f fd ps sp) (hr : Room k X.A) (C : CtxG X G) (Fl : Flag X fl) (tk : Takes X W) (hg : Gl X x) (hm : X.mg x = some (.ref f)) (hk : PySem.W.keepIn X.K (.ref f) = true) (hb : KBinds X.K fd ps ks g gV)
    (ha : PA X (e :: es) t) (hkw : PK X kws tk') (hdb : (x == ("__debug__" : Str)) = false) (hall : (backToKw pos (keywordEach kws X.env)).all (·.1.isSome) = true) (hks : (backToKw pos (keywordEach kws X.env)).filterMap (·.1) = ks)
    (he : starEach (e :: es) X.env = (false, eval e X.env) :: starEach es X.env) (hpl : ((backTo pos (starEach (e :: es) X.env)).any (·.1) || (backToKw pos (keywordEach kws X.env)).any (·.1.isNone)) = false) :
    PE X (.Call (.Name x p) (e :: es) kws pos) (tCallGK X fl G W sp gV t tk') := by
  refine ⟨fun pins s σ H Q I h => ?_⟩
  refine wpAny_Call_Name_kw (ld_glob I hg hm ?_ hdb)
  refine PySem.W.callWith_KW (h₀ := X.base) I.ok.mod.kin hk hall (thn (ha.run pos pins s σ H _ I h) fun us s1 hu => ?_) hpl he
  obtain ⟨vs, H1, I1, r, q⟩ := hu
  refine thn (hkw.run pos pins s1 σ H1 _ I1 q) fun ws s2 hw => ?_
  obtain ⟨zs, H2, I2, rz, q2⟩ := hw
  refine ⟨I2.kIn, ?_⟩
  rw [hks]
  exact run_GK F hr C Fl tk hb I2 r rz q2
theorem pe_callGK0 (F : FnG X.prog X.w X.K X.mg X.base k f fd ps sp) (hr : Room k X.A) (C : CtxG X G) (Fl : Flag X fl) (tk : Takes X W) (hg : Gl X x) (hm : X.mg x = some (.ref f)) (hk : PySem.W.keepIn X.K (.ref f) = true) (hb : KBinds X.K fd ps ks g gV)
    (hkw : PK X kws tk') (hdb : (x == ("__debug__" : Str)) = false) (hall : (backToKw pos (keywordEach kws X.env)).all (·.1.isSome) = true) (hks : (backToKw pos (keywordEach kws X.env)).filterMap (·.1) = ks)
    (hpl : ((backTo pos (starEach [] X.env)).any (·.1) || (backToKw pos (keywordEach kws X.env)).any (·.1.isNone)) = false) :
    PE X (.Call (.Name x p) [] kws pos) (tCallGK X fl G W sp gV tNil tk') := by
  refine ⟨fun pins s σ H Q I h => ?_⟩
  refine wpAny_Call_Name_kw (ld_glob I hg hm ?_ hdb)
  refine PySem.W.callWith_KW0 (h₀ := X.base) I.ok.mod.kin hk hall ?_ hpl
  refine thn (hkw.run pos pins s σ H _ I h) fun ws s2 hw => ?_
  obtain ⟨zs, H2, I2, rz, q2⟩ := hw
  refine ⟨I2.kIn, ?_⟩
  rw [hks]
  exact run_GK (us := []) F hr C Fl tk hb I2 .nil rz q2
end
section
variable {Γ : Gam} {φ : List Fr1} {G : List (Fr1 × L2.St)} {fs : List Env1} {ω0 ω : Wd} {H0 H : Hp} {σ : L2.St} {ρ : Env1} {t : S0}
theorem EnvRel.of_rel (r : Rel Γ ω φ ω0 H0 ρ t σ H) : EnvRel Γ ω φ H ρ σ := r.slot
theorem envs_now {X : Cx} {fl : Bool} (R : SR Γ φ G fs ω0 H0 σ ρ ω t H) : EnvsRel Γ ω φ H (gNow X fl G σ) (if fl then fs ++ [ρ] else fs) := by
  unfold gNow
  cases fl with
  | false => exact R.envs
  | true =>
    refine ⟨by simp [R.envs.len], fun j ρ' p e1 e2 => ?_⟩
    by_cases hj : j < fs.length
    · have e1' : fs[j]? = some ρ' := by
        have q : (fs ++ [ρ])[j]? = some ρ' := e1
        rw [List.getElem?_append_left hj] at q
        exact q
      have e2' : G[j]? = some p := by
        have q : (G ++ [((⟨X.N, X.env.cells⟩ : Fr1), σ)])[j]? = some p := e2
        rw [List.getElem?_append_left (by rw [← R.envs.len]; exact hj)] at q
        exact q
      exact R.envs.at_ j ρ' p e1' e2'
    · have q : (fs ++ [ρ])[j]? = some ρ' := e1
      have q2 : (G ++ [((⟨X.N, X.env.cells⟩ : Fr1), σ)])[j]? = some p := e2
      rw [List.getElem?_append_right (by omega)] at q
      rw [List.getElem?_append_right (by rw [← R.envs.len]; omega), ← R.envs.len] at q2
      cases hn : j - fs.length with
      | zero =>
        rw [hn] at q q2
        cases q
        cases q2
        exact .of_rel R.rel
      | succ n =>
        rw [hn] at q
        cases q
end
def HasF (Γ : Gam) (f : Nat) (x : Str) : Prop := ∃ I, Γ.fi f = some I ∧ I.nm = x
section
variable {Z : Sn} {a b d e : Expr} {ma mb md m : CE} {pos p p2 : Pos} {es : List Expr} {ml mk : CL} {x : Str} {f : Nat}
theorem SX.phi {X : Cx} {W : WX} {G : List (Fr1 × L2.St)} {φ : List Fr1} {fs : List Env1} (B : SX Z X W G φ fs) (σ : L2.St) : (gNow X Z.fl G σ).map (·.1) = φ := by
  rw [B.hφ]
  unfold gNow
  cases Z.fl <;> simp
theorem call_run {X : Cx} {W : WX} {G : List (Fr1 × L2.St)} {φ : List Fr1} {fs : List Env1} {ω0 ω : Wd} {H0 H : Hp} {σ : L2.St} {ρ : Env1} {t : S0} {Q : VK} {ds : List D} {vs : List V} {E : XK} (B : SX Z X W G φ fs) (R : SR Z.Γ φ G fs ω0 H0 σ ρ ω t H) (hv : DvL Z.Γ ω φ H ds vs)
    (A : Aft Z.Γ ω φ H ((run Z.P Z.n Z.k).1 f ((Z.c fs).now ρ) ds t) (QV Z.Γ φ Q) E) : spF Z.Γ ((run Z.P Z.n Z.k).1 f) (gNow X Z.fl G σ) vs H Q E := by
  unfold spF
  rw [B.phi σ]
  exact ⟨ω, _, ds, t, hv, R.st, envs_now R, A⟩
theorem se_call (hf : HasF Z.Γ f x) (hg : glB Z.sc x = true) (h : SL Z (e :: es) ml) (he : ∀ env, starEach (e :: es) env = (false, eval e env) :: starEach es env) (hpl : ∀ env, (backTo pos (starEach es env)).any (·.1) = false) :
    SE Z (.Call (.Name x p) (e :: es) [] pos) (eCall f ml) := by
  intro X W G φ fs B
  obtain ⟨I, hI, rfl⟩ := hf
  obtain ⟨hm, hk, hb, hd⟩ := B.gok.fn f I hI
  refine pe_imp (pe_callG (B.prom _ (Nat.le_refl _) f I hI) B.room B.cg B.fg B.tk (B.gl hg) (by rw [B.eM]; exact hm) (by rw [B.eK]; exact hk) (by rw [B.eK]; exact hb) (h X W G φ fs B) hd (he X.env) (hpl X.env)) fun σ H Q q => ?_
  obtain ⟨ω0, H0, ρ, ω, t, R, A⟩ := q
  exact tL_bind R A fun xs vs ω1 t1 H1 R1 w1 k1 hv A1 => call_run B R1 hv A1
theorem se_call0 (hf : HasF Z.Γ f x) (hg : glB Z.sc x = true) : SE Z (.Call (.Name x p) [] [] pos) (eCall f lNil) := by
  intro X W G φ fs B
  obtain ⟨I, hI, rfl⟩ := hf
  obtain ⟨hm, hk, hb, hd⟩ := B.gok.fn f I hI
  refine pe_imp (pe_callG0 (B.prom _ (Nat.le_refl _) f I hI) B.room B.cg B.fg B.tk (B.gl hg) (by rw [B.eM]; exact hm) (by rw [B.eK]; exact hk) (by rw [B.eK]; exact hb) hd) fun σ H Q q => ?_
  obtain ⟨ω0, H0, ρ, ω, t, R, A⟩ := q
  exact call_run B R .nil A
/-- f(k=..): all parameters by keyword, in the parameters' order -/
def SK (Z : Sn) (kws : List Keyword) (m : CL) : Prop := ∀ X W G φ fs, SX Z X W G φ fs → PK X kws (tL Z.Γ φ G fs W (m (Z.c fs)))
theorem pk_imp {X : Cx} {es : List Keyword} {t t' : TA} (h : PK X es t) (k : ∀ σ H Q, t' σ H Q → t σ H Q) : PK X es t' := ⟨fun pos pins s σ H Q I q => h.run pos pins s σ H Q I (k _ _ _ q)⟩
theorem sk_nil : SK Z [] lNil := fun X W G φ fs B => pk_imp pk_nil fun σ H Q h => by
  obtain ⟨ω0, H0, ρ, ω, t, R, A⟩ := h
  exact Aft.now (a := ([] : List D)) A R.st _ .nil
theorem sk_cons {nm : Option Str} {kpos : Pos} {kws : List Keyword} (he : SE Z e m) (hr : SK Z kws ml) : SK Z (⟨nm, e, kpos⟩ :: kws) (lCons m ml) := by
  refine fun X W G φ fs B => pk_imp (pk_cons (he X W G φ fs B) (hr X W G φ fs B)) fun σ H Q h => ?_
  obtain ⟨ω0, H0, ρ, ω, t, R, A⟩ := h
  refine tV_bind R A fun x v ω1 t1 H1 R1 w1 k1 hv A1 => ?_
  refine tL_bind R1 A1 fun y u ω2 t2 H2 R2 w2 k2 hu A2 => ?_
  exact Aft.now (a := x :: y) A2 R2.st _ (.cons (hv.step R1 w2 k2) hu)
def lApp (a b : CL) : CL := fun c ρ => a c ρ >>= fun xs => b c ρ >>= fun ys => pure (xs ++ ys)
/-- keywords after the positional ones, in the parameters' order -/
def HasK (Γ : Gam) (f : Nat) (x : Str) (ks : List Str) : Prop := ∃ I, Γ.fi f = some I ∧ I.nm = x ∧ KBinds Γ.K I.fd I.ps ks (fun us ws => us ++ ws) (fun vs zs => vs ++ zs)
theorem se_callK0 {kws : List Keyword} {ks : List Str} (hf : HasK Z.Γ f x ks) (hg : glB Z.sc x = true) (h : SK Z kws mk) (hall : ∀ env, (backToKw pos (keywordEach kws env)).all (·.1.isSome) = true) (hks : ∀ env, (backToKw pos (keywordEach kws env)).filterMap (·.1) = ks)
    (hpl : ∀ env, ((backTo pos (starEach [] env)).any (·.1) || (backToKw pos (keywordEach kws env)).any (·.1.isNone)) = false) : SE Z (.Call (.Name x p) [] kws pos) (eCall f mk) := by
  intro X W G φ fs B
  obtain ⟨I, hI, rfl, hb⟩ := hf
  obtain ⟨hm, hk, _, hd⟩ := B.gok.fn f I hI
  refine pe_imp (pe_callGK0 (B.prom _ (Nat.le_refl _) f I hI) B.room B.cg B.fg B.tk (B.gl hg) (by rw [B.eM]; exact hm) (by rw [B.eK]; exact hk) (by rw [B.eK]; exact hb) (h X W G φ fs B) hd (hall X.env) (hks X.env) (hpl X.env)) fun σ H Q q => ?_
  obtain ⟨ω0, H0, ρ, ω, t, R, A⟩ := q
  exact tL_bind R A fun xs vs ω1 t1 H1 R1 w1 k1 hv A1 => call_run B R1 hv A1
theorem se_callK {kws : List Keyword} {ks : List Str} (hf : HasK Z.Γ f x ks) (hg : glB Z.sc x = true) (ha : SL Z (e :: es) ml) (h : SK Z kws mk) (hall : ∀ env, (backToKw pos (keywordEach kws env)).all (·.1.isSome) = true) (hks : ∀ env, (backToKw pos (keywordEach kws env)).filterMap (·.1) = ks)
    (he : ∀ env, starEach (e :: es) env = (false, eval e env) :: starEach es env) (hpl : ∀ env, ((backTo pos (starEach (e :: es) env)).any (·.1) || (backToKw pos (keywordEach kws env)).any (·.1.isNone)) = false) :
    SE Z (.Call (.Name x p) (e :: es) kws pos) (eCall f (lApp ml mk)) := by
  intro X W G φ fs B
  obtain ⟨I, hI, rfl, hb⟩ := hf
  obtain ⟨hm, hk, _, hd⟩ := B.gok.fn f I hI
  refine pe_imp (pe_callGK (B.prom _ (Nat.le_refl _) f I hI) B.room B.cg B.fg B.tk (B.gl hg) (by rw [B.eM]; exact hm) (by rw [B.eK]; exact hk) (by rw [B.eK]; exact hb) (ha X W G φ fs B) (h X W G φ fs B) hd (hall X.env) (hks X.env) (he X.env) (hpl X.env)) fun σ H Q q => ?_
  obtain ⟨ω0, H0, ρ, ω, t, R, A⟩ := q
  have A' : Aft Z.Γ ω φ H ((ml (Z.c fs) ρ >>= fun xs => mk (Z.c fs) ρ >>= fun ys => (Z.c fs).call f ((Z.c fs).now ρ) (xs ++ ys)) t) (QV Z.Γ φ Q) fun c d H' => W c d σ H' := by
    have e : (lApp ml mk (Z.c fs) ρ >>= fun xs => (Z.c fs).call f ((Z.c fs).now ρ) xs) = (ml (Z.c fs) ρ >>= fun xs => mk (Z.c fs) ρ >>= fun ys => (Z.c fs).call f ((Z.c fs).now ρ) (xs ++ ys)) := by
      unfold lApp
      simp only [M.assoc, M.pure_bind]
    rw [← e]
    exact A
  refine tL_bind R A' fun xs vs ω1 t1 H1 R1 w1 k1 hv A1 => ?_
  refine tL_bind R1 A1 fun ys us ω2 t2 H2 R2 w2 k2 hu A2 => ?_
  exact call_run B R2 ((hv.step R1 w2 k2).append hu) A2
/-! lambdas -/
def lamB (N : List Str) (sc : Scope) (l : LamI) : Bool := (l.scope.names.all fun y => match y.2 with
  | .free => (match sc.names.lookup y.1 with | some .cell => true | some .free => true | _ => false)
  | _ => true) && decide (l.caps.map (fun j => N[j]?) = l.N.map some)
theorem se_lam {i : Nat} {l : LamI} (hl : Z.Γ.li i = some l) (hfl : Z.fl = true) (hq : l.qual = Z.q ++ "<lambda>") (ht : ∀ c P, Z.Γ.tb Z.q = some (c, P) → (P, l.qual) ∈ Z.Γ.T ∧ ∀ p ∈ Z.Γ.T, p.1 = P → p.2 = l.qual) (hb : lamB Z.N Z.sc l = true)
    (hdef : ∀ env, defaultsOf l.params env = ([], [])) : SE Z (.Lambda l.params l.body l.scope pos) (eLam i) := by
  refine fun X W G φ fs B => ⟨fun pins s σ H Q I h => ?_⟩
  obtain ⟨ω0, H0, ρ, ω, t, R, A⟩ := h
  obtain ⟨c, P, hc, htb, hqu⟩ := B.code hfl
  obtain ⟨hm, hu⟩ := ht c P htb
  obtain ⟨b1, b2⟩ := Bool.and_eq_true_iff.mp hb
  have hfree : ∀ y ∈ l.scope.names, y.2 = .free → ∃ c, X.env.cells.lookup y.1 = some c := fun y hy e => by
    have q := List.all_eq_true.mp b1 y hy
    rw [e] at q
    refine I.ok.has y.1 ?_
    show X.env.scope.names.lookup y.1 = _ ∨ X.env.scope.names.lookup y.1 = _
    rw [B.eS]
    revert q
    show (match Z.sc.names.lookup y.1 with | some .cell => true | some .free => true | _ => false) = true → _
    split
    · exact fun _ => .inl (by assumption)
    · exact fun _ => .inr (by assumption)
    · exact fun z => by cases z
  refine lam_new (T := Z.Γ.T) I (B.tb _ c P htb) hc (by rw [hqu]; exact hq) hm hu R.st.tabs (hdef X.env) hfree fun f c' H1 s' I1 kp tb1 hn hf hco => ?_
  refine ⟨.ref f, H1, I1, rfl, ?_⟩
  have A2 : Aft Z.Γ ω φ H (.ok (D.lam fs.length i) t) (QV Z.Γ φ Q) fun c d H' => W c d σ H' := by
    have e : eLam i (Z.c fs) ρ = pure (D.lam fs.length i) := by
      unfold eLam
      show (if Z.fl = true then _ else _) = _
      rw [if_pos hfl] <;> rfl
    rw [e] at A
    exact A
  have k := kp ω
  have s1 : StRel Z.Γ ω t H1 := by
    refine ⟨tb1, ?_⟩
    have dd := R.st.ds
    have st := k.obj
    cases ω with
    | none => cases t <;> exact dd
    | some w =>
      cases t with
      | none => exact dd
      | some z =>
        obtain ⟨a, l, c⟩ := w
        obtain ⟨h1, h2, oc, h3⟩ := dd
        have st := (kp none).obj
        have nn : ∀ b, ¬ inW none b := fun b ⟨_, _, _, z, _⟩ => by cases z
        exact ⟨st _ _ h1 (fun _ z => by cases z) (nn _), st _ _ h2 (fun _ z => by cases z) (nn _), oc, st _ _ h3 (fun _ z => by cases z) (nn _)⟩
  refine A2 ω H1 (.refl _ _) k s1 _ ?_
  have hfr : φ[fs.length]? = some ⟨X.N, X.env.cells⟩ := by
    rw [B.hφ, hfl, R.envs.len]
    rw [List.getElem?_append_right (by simp)]
    simp
  exact .lam hfr hl ⟨hfree, by show l.caps.map (fun j => X.N[j]?) = _; rw [B.eN]; exact of_decide_eq_true b2⟩ hf hco
end
end Pv
end

section
set_option Elab.async false
set_option linter.all false
set_option maxRecDepth 100000
set_option maxHeartbeats 4000000
/-! a lambda called -/
namespace Pv
open PySem PySem.Spec PyProof.Rows L2
/-- the bodies of the lambdas, below level k -/
def LamsOk (Γ : Gam) (P : Prog) (n k : Nat) : Prop := ∀ b l, Γ.li b = some l → ∃ e, P.lams b = some (l.caps, e) ∧ LamT l ∧ ∀ k', k' < k → SE ⟨Γ, P, n, k', false, l.N, l.scope, l.qual, fun _ => true⟩ l.body e
section
variable {Z : Sn} {pos p p2 : Pos} {x : Str} {i : Nat}
theorem se_callv (LO : LamsOk Z.Γ Z.P Z.n Z.k) (n : Nm Z i x) : SE Z (.Call (.Name x p) [] [] pos) (eCallv i) := by
  intro X W G φ fs B
  by_cases hk : Z.k = 0
  · refine ⟨fun pins s σ H Q I h => ?_⟩
    obtain ⟨ω0, H0, ρ, ω, t, R, A⟩ := h
    have e : eCallv i (Z.c fs) ρ = M.fail := by
      unfold eCallv
      have e2 : (Z.c fs).lamc = fun _ _ _ => M.fail := by
        show (run Z.P Z.n Z.k).2 = _
        rw [hk] <;> rfl
      rw [e2]
      cases ρ[i]? with
      | none => rfl
      | some s =>
        cases s with
        | pl d => cases d <;> rfl
        | _ => rfl
    rw [e] at A
    exact A.elim
  obtain ⟨k', hk'⟩ : ∃ k', Z.k = k' + 1 := ⟨Z.k - 1, by omega⟩
  have hr : Room (k' + 4 + 1) X.A := by
    have := B.room
    rw [hk'] at this
    exact this
  refine pe_imp (pe_callv (k := k' + 4) (i := i) B.cg B.fg B.tk hr (by rw [B.eN]; exact n.at_) (by rw [B.eS]; exact n.vis) n.d1 n.d2) fun σ H Q h => ?_
  obtain ⟨ω0, H0, ρ, ω, t, R, A⟩ := h
  unfold eCallv at A
  cases e : ρ[i]? with
  | none =>
    rw [e] at A
    exact A.elim
  | some sl =>
    rw [e] at A
    cases sl with
    | pl d =>
      cases d with
      | lam fid b =>
        have A : Aft Z.Γ ω φ H ((run Z.P Z.n Z.k).2 fid b ((Z.c fs).now ρ) t) (QV Z.Γ φ Q) fun c d H' => W c d σ H' := A
        obtain ⟨v, hv, dv⟩ := R.rel.slot i _ e
        cases dv with
        | @lam _ _ fr l f c' h1 h2 h3 h4 h5 =>
          obtain ⟨eb, hlam, T, hSE⟩ := LO b l h2
          have ER : EnvsRel Z.Γ ω φ H (gNow X Z.fl G σ) ((Z.c fs).now ρ) := envs_now R
          have hph := B.phi σ
          rw [← hph, List.getElem?_map] at h1
          cases hg : (gNow X Z.fl G σ)[fid]? with
          | none =>
            rw [hg] at h1
            cases h1
          | some pr =>
            obtain ⟨fr', σf⟩ := pr
            rw [hg] at h1
            cases h1
            rw [hk'] at A
            cases hf : ((Z.c fs).now ρ)[fid]? with
            | none =>
              exfalso
              rw [List.getElem?_eq_none_iff] at hf
              have := (List.getElem?_eq_some_iff.mp hg).1
              rw [ER.len] at hf
              omega
            | some ρf =>
              have A3 : Aft Z.Γ ω φ H (eb (ctxOf Z.P Z.n (run Z.P Z.n k') false ((Z.c fs).now ρ)) (l.caps.map (capS ρf)) t) (QV Z.Γ φ Q) fun c d H' => W c d σ H' := by
                have e9 := run_lam (P := Z.P) (n := Z.n) (k := k') hlam hf
                rw [← e9]
                exact A
              have er := ER.at_ fid ρf _ hf hg
              have hN : l.caps.length = l.N.length := by
                have q := congrArg List.length h3.caps
                simpa using q
              have hst : lamStart l σf = l.caps.map (NdefX.slotAt σf) := by
                show ([] : List V).map some ++ (l.caps.map (NdefX.slotAt σf) ++ List.replicate (l.N.length - ([] : List V).length - (l.caps.map (NdefX.slotAt σf)).length) none) = _
                rw [List.length_map, hN]
                simp
              have SR' : SR Z.Γ φ (gNow X Z.fl G σ) ((Z.c fs).now ρ) ω H (lamStart l σf) (l.caps.map (capS ρf)) ω t H := by
                have noown : ∀ (j : Nat) (xs : List D), (l.caps.map (capS ρf))[j]? = some (.own xs) → False := fun j xs q => by
                  rw [List.getElem?_map] at q
                  cases hc : l.caps[j]? with
                  | none =>
                    rw [hc] at q
                    cases q
                  | some jj =>
                    rw [hc] at q
                    have q : some (capS ρf jj) = some (Slot.own xs) := q
                    unfold capS at q
                    split at q <;> cases q
                refine ⟨⟨R.st, by rw [hst]; simp, fun j d q => ?_, fun j xs q => (noown j xs q).elim, fun j _ xs _ _ q => (noown j xs q).elim, .refl _ _, .refl _ _⟩, ER⟩
                rw [List.getElem?_map] at q
                rw [hst, List.getElem?_map]
                cases hc : l.caps[j]? with
                | none =>
                  rw [hc] at q
                  cases q
                | some jj =>
                  rw [hc] at q
                  have q : some (capS ρf jj) = some (Slot.pl d) := q
                  unfold capS at q
                  cases hp : ρf[jj]? with
                  | none =>
                    rw [hp] at q
                    cases q
                  | some sl =>
                    rw [hp] at q
                    cases sl with
                    | pl d' =>
                      cases q
                      obtain ⟨w, hw, dw⟩ := er jj _ hp
                      exact ⟨w, by rw [Option.map_some, NdefX.slotAt_of hw], dw⟩
                    | _ => cases q
              refine ⟨f, c', l, fr', σf, fid, tV Z.Γ φ (gNow X Z.fl G σ) ((Z.c fs).now ρ) (fun c d _ H' => W c d σ H') (eb (ctxOf Z.P Z.n (run Z.P Z.n k') false ((Z.c fs).now ρ))), hv, hg, h4, h5, h3, T, fun A' outer s H' hroom hcg => ?_, ω, H, l.caps.map (capS ρf), ω, t, SR', A3⟩
              refine hSE k' (by omega) _ _ _ _ _ ?_
              exact {
                eK := B.eK
                eP := B.eP
                eM := B.eM
                eN := rfl
                eS := rfl
                gok := B.gok
                calm := rfl
                nd := T.sc.nd
                tk := takes_of rfl rfl rfl rfl
                cg := hcg
                fg := ⟨fun z => (nomatch z), fun z => (nomatch z)⟩
                fn := fun y _ hy => by
                  rcases hy with hy | hy
                  · exact .inr hy
                  · exact absurd rfl (T.sc.nocell _ (PySem.mem_of_lookup hy))
                room := hroom
                hφ := by
                  show φ = _ ++ []
                  rw [List.append_nil, hph]
                prom := fun j hj => B.prom j (by have : j ≤ k' := hj; omega)
                tb := B.tb
                code := fun z => by cases z }
      | _ => exact A.elim
    | _ => exact A.elim
end
end Pv
end

section
set_option Elab.async false
set_option linter.all false
set_option maxRecDepth 100000
set_option maxHeartbeats 4000000
/-! built-in functions, types, methods; an error's field -/
namespace Pv
open PySem PySem.Spec PyProof.Rows L2
/-- isinstance(e, C), e a told error -/
def rIsE (K : PySem.W.Frag) : List V → Hp → VK → Prop := fun xs H Q => ∃ (a C D : Addr) (d : Option Addr) (b : Bool), xs = [.ref a, .ref D] ∧ H a = some (ErrO (.ref C) d a) ∧ (∀ dd, d = some dd → ∃ fs, H dd = some (.xd fs)) ∧ XfC K C ∧ (PySem.W.clsIn K C).isSome = true ∧
  PySem.W.findIn K (.ref C) "__class__" = some (some (.builtin "object.__class__")) ∧ PySem.W.mroIn K C (.type "object") = some true ∧ PySem.W.specialIn K (.builtin "object.__class__") "__get__" = some (some (.builtin "getset_descriptor.__get__")) ∧
  PySem.W.takesIn K (.builtin "object.__class__") = some true ∧ PySem.W.kitOne K (.ref C) (.ref D) = some b ∧ Q (.bl b) H
theorem inst_of {X : Cx} {pins : List (Addr × Obj)} {σ : L2.St} {H : Hp} {s : Shared} {a C : Addr} {d : Option Addr} (I : Inv X pins σ H s) (e : H a = some (ErrO (.ref C) d a)) (hd : ∀ dd, d = some dd → ∃ fs, H dd = some (.xd fs)) :
    ∃ oe od, PySem.W.InstAt s.heap a oe C od ∧ ∀ dd fs, d = some dd → H dd = some (.xd fs) → ∃ (o : Obj) (mA : Str → Option Value), od = some o ∧ (∀ name, PySem.W.lookIn name o = some (mA name)) ∧ ∀ f, RelO (fs.lookup f) (mA f) := by
  obtain ⟨oe, vs, he, hz, hda⟩ := errO_at I.hok e
  have nc : PySem.W.notCls oe = true := by
    unfold PySem.W.notCls
    rw [hda]
  cases d with
  | none =>
    refine ⟨oe, none, ⟨he, hz.1, nc, ?_⟩, fun dd fs z => by cases z⟩
    rw [hz.2]
    trivial
  | some dd =>
    obtain ⟨fs, hx0⟩ := hd dd rfl
    have hx : ObjOk X.prog X.w H s.heap dd (.xd fs) := I.hok dd _ hx0
    obtain ⟨mA, hns, hr⟩ := hx
    obtain ⟨od, ho, hl⟩ := lookIn_ns hns
    refine ⟨oe, some od, ⟨he, hz.1, nc, by rw [hz.2]; exact ho⟩, fun dd' fs' z hx' => ?_⟩
    cases z
    rw [hx'] at hx0
    cases hx0
    exact ⟨od, mA, rfl, hl, hr⟩
theorem call_isE {X : Cx} : CallR X (.builtin "isinstance") (rIsE X.K) := by
  intro pins s σ H xs us Q I r h
  obtain ⟨a, C, D, d, b, rfl, e, hd, T, h1, h2, h3, h4, h5, h6, q⟩ := h
  obtain ⟨u1, u2, rfl, r1, r2⟩ := vals2 r
  obtain rfl : u1 = Value.ref a := r1
  obtain rfl : u2 = Value.ref D := r2
  obtain ⟨oe, od, J, _⟩ := inst_of I e hd
  exact PySem.W.kia_one (PySem.W.kitx_exc (ox := oe) (od := od) h1 T.ga T.gg T.exC h2 h4 h5 h3) I.kIn J h6 (fun z => by cases z) fun tk => ⟨.bl b, H, I.tok tk, rfl, q⟩
def bnV : Bn → Value
  | .len => .builtin "len"
  | .abs => .builtin "abs"
  | .int => .type "int"
  | .str => .type "str"
  | .repr => .builtin "repr"
  | .tuple => .type "tuple"
  | .list => .type "list"
  | .min2 => .builtin "min"
  | .max2 => .builtin "max"
  | .isi => .builtin "isinstance"
  | .gcd => .builtin "math.gcd"
def rBn (K : PySem.W.Frag) : Bn → List V → Hp → VK → Prop
  | .len => fun xs H Q => (∃ z, xs = [.str z] ∧ z.length ≤ sizeLine ∧ Q (.int z.length) H) ∨ ∃ p ys, xs = [.ref p] ∧ (SqL K H p ys ∨ SqT K H p ys) ∧ Q (.int ys.length) H
  | .abs => fun xs H Q => ∃ i, xs = [.int i] ∧ Q (.int (if i < 0 then -i else i)) H
  | .int => fun xs H Q => (∃ i, xs = [.int i] ∧ Q (.int i) H) ∨ ∃ k, xs = [.bl k] ∧ Q (.int (if k then 1 else 0)) H
  | .str => fun xs H Q => ∃ i, xs = [.int i] ∧ i.natAbs.log2 < 1920 ∧ Q (.str (toString i)) H
  | .repr => fun xs H Q => ∃ v d, xs = [v] ∧ Dp K H v d ∧ d.showable = true ∧ d.depth ≤ 64 ∧ d.shown.length ≤ sizeLine ∧ Q (.str d.shown) H
  | .tuple => fun xs H Q => ∃ p ys, xs = [.ref p] ∧ ((SqL K H p ys ∧ ∀ l, H l = none → Q (.ref l) (upd H l (.tup ys))) ∨ (SqT K H p ys ∧ Q (.ref p) H))
  | .list => fun xs H Q => (∃ p ys, xs = [.ref p] ∧ (SqL K H p ys ∨ SqT K H p ys) ∧ ∀ l, H l = none → Q (.ref l) (upd H l (.lst ys))) ∨ ∃ a, xs = [.str a] ∧ a.length ≤ sizeLine ∧ ∀ p, H p = none → Q (.ref p) (upd H p (.lst (a.cps.toList.map fun c => V.str ⟨#[c]⟩)))
  | .min2 => fun xs H Q => ∃ i j, xs = [.int i, .int j] ∧ Q (.int (if j < i then j else i)) H
  | .max2 => fun xs H Q => ∃ i j, xs = [.int i, .int j] ∧ Q (.int (if j > i then j else i)) H
  | .isi => fun xs H Q => rIsi K xs H Q ∨ rIsE K xs H Q
  | .gcd => rGcd
theorem call_bn {X : Cx} (hc : X.calm = true) (hg : X.A.guards = some []) (hu : X.A.units + 65 < cLine) (b : Bn) : CallR X (bnV b) (rBn X.K b) := by
  cases b with
  | len => exact call_len_str.or call_len_seq
  | abs => exact call_abs
  | int => exact call_int1
  | str => exact call_str_int
  | repr => exact call_reprD hg hu
  | tuple => exact call_tuple_of
  | list => exact call_list_of.or (call_listS hc)
  | min2 => exact call_min2 hc
  | max2 => exact call_max2 hc
  | isi => exact call_isi.or call_isE
  | gcd => exact cr_gcd
section
variable {Γ : Gam} {P : Prog} {φ : List Fr1} {ω : Wd} {H : Hp} {t : S0} {E : XK} {Q : VK}
theorem kind_ty {d : D} {v : V} {T : String} (h : Dt Γ ω φ H d v) (k : kindD d = some T) : TyX Γ.K H v (.type T) := by
  cases h with
  | own e n h =>
    cases k
    exact .base (.lst e)
  | pl h =>
    cases h with
    | non =>
      cases k
      exact .base .non
    | bl b =>
      cases k
      exact .base (.bl b)
    | int b =>
      cases k
      exact .base (.int b)
    | str b =>
      cases k
      exact .base (.str b)
    | tup e h =>
      cases k
      rcases e with (e | ⟨o, e⟩) | ⟨o, its, n, e1, e2, _⟩
      · exact .base (.tup e)
      · exact .fTuple e
      · exact .kTuple e1 e2
    | lst e h =>
      cases k
      obtain ⟨o, e⟩ := e
      exact .base (.frz e)
    | _ => cases k
theorem dt_lst {xs : List D} {v : V} (h : Dt Γ ω φ H (.lst xs) v) : ∃ a vs, v = .ref a ∧ SqL Γ.K H a vs ∧ DvL Γ ω φ H xs vs := by
  cases h with
  | own e n h => exact ⟨_, _, rfl, .inl (.of e), h⟩
  | pl h =>
    cases h with
    | lst e h => exact ⟨_, _, rfl, e.sql, h⟩
theorem dt_tup {xs : List D} {v : V} (h : Dt Γ ω φ H (.tup xs) v) : ∃ a vs, v = .ref a ∧ SqT Γ.K H a vs ∧ DvL Γ ω φ H xs vs := by
  cases h with
  | pl h =>
    cases h with
    | tup e h => exact ⟨_, _, rfl, e, h⟩
theorem dt_str {s : Str} {v : V} (h : Dt Γ ω φ H (.str s) v) : v = .str s := by
  cases h with
  | pl h =>
    cases h
    rfl
theorem dt_int {i : Int} {v : V} (h : Dt Γ ω φ H (.int i) v) : v = .int i := by
  cases h with
  | pl h =>
    cases h
    rfl
theorem signs_dv (l : List Nat) : DvL Γ ω φ H (l.map fun c => D.str ⟨#[c]⟩) (l.map fun c => V.str ⟨#[c]⟩) := by
  induction l with
  | nil => exact .nil
  | cons c l ih => exact .cons (.str _) ih
theorem err_told {c : Nat} {x : Option D} {v : V} (h : Dt Γ ω φ H (.err c x) v) : ∃ a C fo d, v = .ref a ∧ Γ.ca c = some (C, fo) ∧ H a = some (ErrO (.ref C) d a) ∧ (∀ dd, d = some dd → ∃ fs, H dd = some (.xd fs)) ∧
    ∀ y, x = some y → ∃ f dd w, fo = some f ∧ d = some dd ∧ H dd = some (.xd [(f, w)]) ∧ Dv Γ ω φ H y w := by
  cases h with
  | pl h =>
    cases h with
    | err0 h1 h2 => exact ⟨_, _, _, _, rfl, h1, h2, fun dd z => (by cases z), fun y z => (by cases z)⟩
    | err1 h1 h2 h3 h4 => exact ⟨_, _, _, _, rfl, h1, h2, fun dd z => (by cases z; exact ⟨_, h3⟩), fun y z => (by cases z; exact ⟨_, _, _, rfl, rfl, h3, h4⟩)⟩
theorem bn_ok {b : Bn} {xs : List D} {z : D} {vs : List V} (g : GOk Γ P) (h : vbi P.sub b xs = some z) (hx : DtL Γ ω φ H xs vs) (s : StRel Γ ω t H) (A : Aft Γ ω φ H (.ok z t) (QV Γ φ Q) E) : rBn Γ.K b vs H (FzQ Q) := by
  have one : ∀ {w : V}, Dv Γ ω φ H z w → FzQ Q w H := fun d => .inl (aft_val A s d)
  cases hx with
  | nil => cases b <;> cases h
  | @cons x v xs vs hv hs =>
    cases hs with
    | nil =>
      cases b with
      | len =>
        cases x <;> try cases h
        · rename_i z0
          have h : (if z0.length ≤ sizeLine then some (D.int z0.length) else none) = some z := h
          cases dt_str hv
          split at h
          · cases h
            exact .inl ⟨_, rfl, by assumption, one (.int _)⟩
          · cases h
        · obtain ⟨a, us, rfl, e, k⟩ := dt_tup hv
          refine .inr ⟨a, us, rfl, .inr e, ?_⟩
          rw [← k.length]
          exact one (.int _)
        · obtain ⟨a, us, rfl, e, k⟩ := dt_lst hv
          refine .inr ⟨a, us, rfl, .inl e, ?_⟩
          rw [← k.length]
          exact one (.int _)
        · rename_i ns
          cases hv with
          | pl hv =>
            cases hv with
            | scr _ e =>
              refine .inr ⟨_, _, rfl, .inl e.sql, ?_⟩
              rw [List.length_map]
              exact one (.int _)
      | abs =>
        cases x <;> try cases h
        cases dt_int hv
        exact ⟨_, rfl, one (.int _)⟩
      | int =>
        cases x <;> try cases h
        · cases hv with
          | pl hv =>
            cases hv
            exact .inr ⟨_, rfl, one (.int _)⟩
        · cases dt_int hv
          exact .inl ⟨_, rfl, one (.int _)⟩
      | str =>
        cases x <;> try cases h
        rename_i i
        have h : (if i.natAbs.log2 < 1920 then some (D.str (toString i)) else none) = some z := h
        cases dt_int hv
        split at h
        · cases h
          exact ⟨_, rfl, by assumption, one (.str _)⟩
        · cases h
      | repr =>
        have h : ((shapedD x).bind fun p => if p.showable && (decide (p.depth ≤ 64) && decide (p.shown.length ≤ sizeLine)) then some (D.str p.shown) else none) = some z := h
        cases e1 : shapedD x with
        | none =>
          rw [e1] at h
          cases h
        | some p =>
          rw [e1] at h
          have h : (if p.showable && (decide (p.depth ≤ 64) && decide (p.shown.length ≤ sizeLine)) then some (D.str p.shown) else none) = some z := h
          split at h
          · rename_i hz
            cases h
            simp only [Bool.and_eq_true, decide_eq_true_eq] at hz
            exact ⟨v, p, rfl, hv.dp (shapedD_of e1).1, hz.1, hz.2.1, hz.2.2, one (.str _)⟩
          · cases h
      | tuple =>
        cases x <;> try cases h
        · obtain ⟨a, us, rfl, e, k⟩ := dt_tup hv
          exact ⟨a, us, rfl, .inr ⟨e, one (.tup e k)⟩⟩
        · obtain ⟨a, us, rfl, e, k⟩ := dt_lst hv
          exact ⟨a, us, rfl, .inl ⟨e, fun p hp => .inl (aft_tup A s k hp)⟩⟩
      | list =>
        cases x <;> try cases h
        · rename_i z0
          have h : (if z0.length ≤ sizeLine then some (D.lst (z0.cps.toList.map fun c => .str ⟨#[c]⟩)) else none) = some z := h
          cases dt_str hv
          split at h
          · cases h
            exact .inr ⟨_, rfl, by assumption, fun p hp => aft_lst A s (signs_dv _) hp⟩
          · cases h
        · obtain ⟨a, us, rfl, e, k⟩ := dt_tup hv
          exact .inl ⟨a, us, rfl, .inr e, fun p hp => aft_lst A s k hp⟩
        · obtain ⟨a, us, rfl, e, k⟩ := dt_lst hv
          exact .inl ⟨a, us, rfl, .inl e, fun p hp => aft_lst A s k hp⟩
      | min2 => cases x <;> cases h
      | max2 => cases x <;> cases h
      | isi => cases x <;> cases h
      | gcd => cases x <;> cases h
    | @cons y u ys us hu hs =>
      cases hs with
      | cons _ _ =>
        cases b <;> (try cases h) <;> (cases x <;> (try cases h) <;> cases y <;> cases h)
      | nil =>
        cases b with
        | min2 =>
          cases x <;> (try cases h) <;> cases y <;> cases h
          cases dt_int hv
          cases dt_int hu
          exact ⟨_, _, rfl, one (.int _)⟩
        | max2 =>
          cases x <;> (try cases h) <;> cases y <;> cases h
          cases dt_int hv
          cases dt_int hu
          exact ⟨_, _, rfl, one (.int _)⟩
        | gcd =>
          cases x <;> (try cases h) <;> cases y <;> cases h
          cases dt_int hv
          cases dt_int hu
          exact ⟨_, _, rfl, one (.int _)⟩
        | isi =>
          cases y with
          | cls k =>
            cases hu with
            | pl hu =>
              cases hu with
              | @cls _ C2 fo2 hk =>
                have gen : ∀ {T : String}, kindD x = some T → z = .bl false → rBn Γ.K .isi [v, .ref C2] H (FzQ Q) := fun {T} e ez => by
                  subst ez
                  exact .inl ⟨v, .ref C2, .type T, .ref C2, false, rfl, .own _, kind_ty hv e, g.not x T k C2 fo2 e hk, one (.bl _)⟩
                cases x with
                | err c x =>
                  have h : (P.sub c k).map D.bl = some z := h
                  cases e : P.sub c k with
                  | none =>
                    rw [e] at h
                    cases h
                  | some b =>
                    rw [e] at h
                    cases h
                    obtain ⟨a, C, fo, d, rfl, hc, ho, hd, _⟩ := err_told hv
                    obtain ⟨c1, c2, c3⟩ := g.cls c C fo hc
                    exact .inr ⟨a, C, C2, d, b, rfl, ho, hd, g.xf c C fo hc, c1, c2, c3, g.ga.1, g.ga.2, (g.one c k C C2 fo fo2 b hc hk e).1, one (.bl _)⟩
                | non =>
                  cases h
                  exact gen rfl rfl
                | bl _ =>
                  cases h
                  exact gen rfl rfl
                | int _ =>
                  cases h
                  exact gen rfl rfl
                | str _ =>
                  cases h
                  exact gen rfl rfl
                | tup _ =>
                  cases h
                  exact gen rfl rfl
                | lst _ =>
                  cases h
                  exact gen rfl rfl
                | _ => cases h
          | ty n =>
            cases hu with
            | pl hu =>
              cases hu with
              | ty _ =>
                have gen : ∀ {T : String}, kindD x = some T → (L2.kitB T n).map D.bl = some z → rBn Γ.K .isi [v, .ty n] H (FzQ Q) := fun {T} e ez => by
                  cases e2 : L2.kitB T n with
                  | none =>
                    rw [e2] at ez
                    cases ez
                  | some b =>
                    rw [e2] at ez
                    cases ez
                    exact .inl ⟨v, .ty n, .type T, .type n, b, rfl, .ty n, kind_ty hv e, L2.kit_ty e2, one (.bl _)⟩
                cases x with
                | non => exact gen rfl h
                | bl _ => exact gen rfl h
                | int _ => exact gen rfl h
                | str _ => exact gen rfl h
                | tup _ => exact gen rfl h
                | lst _ => exact gen rfl h
                | _ => cases h
          | _ => cases x <;> cases h
        | _ => cases x <;> cases h
end
section
variable {Z : Sn} {a b d e : Expr} {ma mb md m : CE} {pos p p2 : Pos} {es : List Expr} {ml mk : CL} {x : Str}
theorem SX.units65 {X : Cx} {W : WX} {G : List (Fr1 × L2.St)} {φ : List Fr1} {fs : List Env1} (B : SX Z X W G φ fs) : X.A.units + 65 < cLine := by
  have := B.room.un
  omega
theorem bi_run {X : Cx} {W : WX} {G : List (Fr1 × L2.St)} {φ : List Fr1} {fs : List Env1} {σ : L2.St} {H : Hp} {Q : VK} {b : Bn} (B : SX Z X W G φ fs) (h : tV Z.Γ φ G fs W (eBi b ml (Z.c fs)) σ H Q) : tFz (tCB (rBn X.K b) (tLo Z.Γ φ G fs W (ml (Z.c fs)))) σ H Q := by
  obtain ⟨ω0, H0, ρ, ω, t, R, A⟩ := h
  refine tLo_bind R A fun xs vs ω1 t1 H1 R1 w1 k1 hv A1 => ?_
  obtain ⟨z, hz, A2⟩ := aft_opt1 A1
  rw [B.eK]
  exact bn_ok B.gok hz hv R1.st A2
theorem se_bi {b : Bn} (hm : Z.Γ.mg x = none) (hv : bootBuiltins x = some (bnV b)) (hg : glB Z.sc x = true) (h : SLo Z (e :: es) ml) (he : ∀ env, starEach (e :: es) env = (false, eval e env) :: starEach es env) (hpl : ∀ env, (backTo pos (starEach es env)).any (·.1) = false) :
    SE Z (.Call (.Name x p) (e :: es) [] pos) (eBi b ml) := by
  intro X W G φ fs B
  have hm' : X.mg x = none := by
    rw [B.eM]
    exact hm
  have c := call_bn B.calm B.cg.gd B.units65 b
  have n1 := (gl_by hg).2.2
  have n2 := (gl_by hg).2.1
  have ha := h X W G φ fs B
  have g := B.gl hg
  refine pe_imp (t := tFz (tCB (rBn X.K b) (tLo Z.Γ φ G fs W (ml (Z.c fs))))) ?_ fun σ H Q q => bi_run B q
  refine pe_fz ?_
  cases b with
  | len => exact pe_callB c g hm' hv ha n1 n2 (he X.env) (hpl X.env)
  | abs => exact pe_callB c g hm' hv ha n1 n2 (he X.env) (hpl X.env)
  | repr => exact pe_callB c g hm' hv ha n1 n2 (he X.env) (hpl X.env)
  | min2 => exact pe_callB c g hm' hv ha n1 n2 (he X.env) (hpl X.env)
  | max2 => exact pe_callB c g hm' hv ha n1 n2 (he X.env) (hpl X.env)
  | isi => exact pe_callB c g hm' hv ha n1 n2 (he X.env) (hpl X.env)
  | gcd => exact pe_callB c g hm' hv ha n1 n2 (he X.env) (hpl X.env)
  | int => exact pe_callTy c g hm' hv ha n1 n2 (he X.env) (hpl X.env)
  | str => exact pe_callTy c g hm' hv ha n1 n2 (he X.env) (hpl X.env)
  | tuple => exact pe_callTy c g hm' hv ha n1 n2 (he X.env) (hpl X.env)
  | list => exact pe_callTy c g hm' hv ha n1 n2 (he X.env) (hpl X.env)
theorem se_gcd (hm : Z.Γ.mg x = some (.builtin "math.gcd")) (hg : glB Z.sc x = true) (h : SLo Z (e :: es) ml) (he : ∀ env, starEach (e :: es) env = (false, eval e env) :: starEach es env) (hpl : ∀ env, (backTo pos (starEach es env)).any (·.1) = false) :
    SE Z (.Call (.Name x p) (e :: es) [] pos) (eBi .gcd ml) := by
  intro X W G φ fs B
  refine pe_imp (pe_fz (pe_callBfun (id := "math.gcd") (call_bn B.calm B.cg.gd B.units65 .gcd) (B.gl hg) (by rw [B.eM]; exact hm) (h X W G φ fs B) (gl_by hg).2.1 (he X.env) (hpl X.env))) fun σ H Q q => bi_run B q
/-! methods -/
theorem strs_of {xs : List D} {ys : List Str} {vs : List V} {Γ : Gam} {φ : List Fr1} {ω : Wd} {H : Hp} (h : strs? xs = some ys) (k : DvL Γ ω φ H xs vs) : vs = ys.map V.str := by
  induction xs generalizing ys vs with
  | nil =>
    cases h
    cases k
    rfl
  | cons x xs ih =>
    cases k with
    | cons k1 k2 =>
      cases x <;> try cases h
      have h : (strs? xs).map (_ :: ·) = some ys := h
      cases e : strs? xs with
      | none =>
        rw [e] at h
        cases h
      | some zs =>
        rw [e] at h
        cases h
        cases k1
        rw [ih e k2]
        rfl
theorem se_alpha {apos : Pos} (ha : SO Z a ma) (hb : ∀ env, attributeBase a "isalpha" env (eval a env) = eval a env) (hl : (apos.endLine == pos.line) = true) : SE Z (.Call (.Attribute a "isalpha" apos) [] [] pos) (eMe .isalpha ma lNil) := by
  refine fun X W G φ fs B => pe_imp (pe_m0 F.slot_str_isalpha F.type_str_isalpha mt_isalpha (ha X W G φ fs B) (hb X.env) hl) fun σ H Q h => ?_
  obtain ⟨ω0, H0, ρ, ω, t, R, A⟩ := h
  refine tO_bind R A fun x v ω1 t1 H1 R1 w1 k1 hv A1 => ?_
  cases x <;> try exact A1.elim
  rename_i s
  obtain ⟨z, hz, A2⟩ := aft_opt1 (o := vme .isalpha (.str s) []) (t := t1) A1
  cases hz
  cases dt_str hv
  exact ⟨⟨_, rfl⟩, _, rfl, rfl, trivial, Aft.now A2 R1.st _ (.bl _)⟩
theorem se_digit {apos : Pos} (ha : SO Z a ma) (hb : ∀ env, attributeBase a "isdigit" env (eval a env) = eval a env) (hl : (apos.endLine == pos.line) = true) : SE Z (.Call (.Attribute a "isdigit" apos) [] [] pos) (eMe .isdigit ma lNil) := by
  refine fun X W G φ fs B => pe_imp (pe_m0 F.slot_str_isdigit F.type_str_isdigit mt_isdigit (ha X W G φ fs B) (hb X.env) hl) fun σ H Q h => ?_
  obtain ⟨ω0, H0, ρ, ω, t, R, A⟩ := h
  refine tO_bind R A fun x v ω1 t1 H1 R1 w1 k1 hv A1 => ?_
  cases x <;> try exact A1.elim
  rename_i s
  obtain ⟨z, hz, A2⟩ := aft_opt1 (o := vme .isdigit (.str s) []) (t := t1) A1
  cases hz
  cases dt_str hv
  exact ⟨⟨_, rfl⟩, _, rfl, rfl, trivial, Aft.now A2 R1.st _ (.bl _)⟩
theorem tO_any {Γ : Gam} {φ : List Fr1} {G : List (Fr1 × L2.St)} {fs : List Env1} {W : WX} {f : Env1 → M D} {σ : L2.St} {H : Hp} {Q : VK} (h : tO Γ φ G fs W f σ H Q) : tO Γ φ G fs W f σ H Q := h
theorem se_join {apos : Pos} (ha : SO Z a ma) (he : SO Z e m) (hs : ∀ env, starEach [e] env = [(false, eval e env)]) (hb : ∀ env, attributeBase a "join" env (eval a env) = eval a env) (hl : (apos.endLine == pos.line) = true) :
    SE Z (.Call (.Attribute a "join" apos) [e] [] pos) (eMe .join ma (lCons m lNil)) := by
  refine fun X W G φ fs B => pe_imp (pe_join (ha X W G φ fs B) (he X W G φ fs B) (hs X.env) (hb X.env) hl) fun σ H Q h => ?_
  obtain ⟨ω0, H0, ρ, ω, t, R, A⟩ := h
  have A' : Aft Z.Γ ω φ H ((ma (Z.c fs) ρ >>= fun x => if isStrD x then m (Z.c fs) ρ >>= fun y => M.opt (vme .join x [y]) else M.fail) t) (QV Z.Γ φ Q) fun c d H' => W c d σ H' := by
    have e : eMe .join ma (lCons m lNil) (Z.c fs) ρ = (ma (Z.c fs) ρ >>= fun x => if isStrD x then m (Z.c fs) ρ >>= fun y => M.opt (vme .join x [y]) else M.fail) := by
      unfold eMe lCons lNil
      simp only [M.assoc, M.pure_bind]
    rw [← e]
    exact A
  refine tO_bind R A' fun x v ω1 t1 H1 R1 w1 k1 hv A1 => ?_
  cases hx : x with
  | str s =>
    subst hx
    cases dt_str hv
    refine ⟨⟨s, rfl⟩, ?_⟩
    refine tO_bind R1 A1 fun y u ω2 t2 H2 R2 w2 k2 hu A2 => ?_
    obtain ⟨z, hz, A3⟩ := aft_opt1 A2
    rw [B.eK]
    cases y <;> try cases hz
    · rename_i xs
      have hz : ((strs? xs).bind fun ys => if (ys.map (·.length)).sum + ys.length * s.length ≤ 16777216 then some (D.str (Txt.join s ys)) else none) = some z := hz
      cases e : strs? xs with
      | none =>
        rw [e] at hz
        cases hz
      | some ys =>
        rw [e] at hz
        have hz : (if (ys.map (·.length)).sum + ys.length * s.length ≤ 16777216 then some (D.str (Txt.join s ys)) else none) = some z := hz
        split at hz
        · cases hz
          obtain ⟨a, us, rfl, e1, k⟩ := dt_tup hu
          rw [strs_of e k] at e1
          exact ⟨s, a, ys, rfl, rfl, .inr e1, by assumption, Aft.now A3 R2.st _ (.str _)⟩
        · cases hz
    · rename_i xs
      have hz : ((strs? xs).bind fun ys => if (ys.map (·.length)).sum + ys.length * s.length ≤ 16777216 then some (D.str (Txt.join s ys)) else none) = some z := hz
      cases e : strs? xs with
      | none =>
        rw [e] at hz
        cases hz
      | some ys =>
        rw [e] at hz
        have hz : (if (ys.map (·.length)).sum + ys.length * s.length ≤ 16777216 then some (D.str (Txt.join s ys)) else none) = some z := hz
        split at hz
        · cases hz
          obtain ⟨a, us, rfl, e1, k⟩ := dt_lst hu
          rw [strs_of e k] at e1
          exact ⟨s, a, ys, rfl, rfl, .inl e1, by assumption, Aft.now A3 R2.st _ (.str _)⟩
        · cases hz
  | _ =>
    subst hx
    exact A1.elim
end
end Pv
end

section
set_option Elab.async false
set_option linter.all false
set_option maxRecDepth 100000
set_option maxHeartbeats 4000000
/-! an error's field; targets; what is walked -/
namespace Pv
open PySem PySem.Spec PyProof.Rows L2
section
variable {Z : Sn} {a b d e : Expr} {ma mb md m : CE} {pos p p2 : Pos} {es : List Expr} {ml mk : CL} {x : Str}
theorem se_attr {cs : List Nat} {f : Str} (hf : ∀ c ∈ cs, ∀ C fo, Z.Γ.ca c = some (C, fo) → fo = some f) (he : SE Z e m) (hb : ∀ env, attributeBase e f env (eval e env) = eval e env) : SE Z (.Attribute e f pos) (eAttr cs m) := by
  refine fun X W G φ fs B => ⟨fun pins s σ H Q I h => ?_⟩
  obtain ⟨ω0, H0, ρ, ω, t, R, A⟩ := h
  refine attr_of (hb X.env) (thn ((he X W G φ fs B).run pins s σ H (fun v H1 => ∃ (a C : Addr) (fo : Option Str) (d : Option Addr) (y : Nat × D) (ω1 : Wd) (t1 : S0) (f' : Str) (dd : Addr) (w : V), v = .ref a ∧ Z.Γ.ca y.1 = some (C, fo) ∧ H1 a = some (ErrO (.ref C) d a) ∧ (∀ dd, d = some dd → ∃ fs, H1 dd = some (.xd fs)) ∧ fo = some f' ∧ d = some dd ∧ H1 dd = some (.xd [(f', w)]) ∧
      Dv Z.Γ ω1 φ H1 y.2 w ∧ cs.contains y.1 = true ∧ StRel Z.Γ ω1 t1 H1 ∧ Aft Z.Γ ω1 φ H1 (.ok y.2 t1) (QV Z.Γ φ Q) fun c d H' => W c d σ H') I ?_) fun u s1 hu => ?_)
  · refine tV_bind R A fun x v ω1 t1 H1 R1 w1 k1 hv A1 => ?_
    cases x with
    | err k x =>
      cases x with
      | none => exact A1.elim
      | some y =>
        have A1 : Aft Z.Γ ω1 φ H1 ((if cs.contains k then pure y else M.fail : M D) t1) (QV Z.Γ φ Q) fun c d H' => W c d σ H' := A1
        by_cases hc : cs.contains k = true
        · rw [if_pos hc] at A1
          obtain ⟨a, C, fo, d, rfl, hca, ho, hd, hx⟩ := err_told (.pl hv)
          obtain ⟨f', dd, w, h1, h2, h3, h4⟩ := hx y rfl
          exact ⟨a, C, fo, d, (k, y), ω1, t1, f', dd, w, rfl, hca, ho, hd, h1, h2, h3, h4, hc, R1.st, A1⟩
        · rw [if_neg hc] at A1
          exact A1.elim
    | _ => exact A1.elim
  · obtain ⟨v, H1, I1, rv, a, C, fo, d, y, ω1, t1, f', dd, w, rfl, hca, ho, hd, h1, h2, h3, h4, hc, st, A1⟩ := hu
    obtain rfl : u = Value.ref a := rv
    have hff := hf y.1 (by simpa using hc) C fo hca
    rw [h1] at hff
    obtain rfl : f' = f := Option.some.inj hff
    rw [h1] at hca
    have hno := B.gok.at_ y.1 C f' hca
    rw [← B.eK] at hno
    have T := B.gok.xf y.1 C _ hca
    rw [← B.eK] at T
    obtain ⟨oe, od, J, hod⟩ := inst_of I1 ho hd
    obtain ⟨o, mA, rfl, hl, hr⟩ := hod dd _ h2 h3
    have hm : RelO (some w) (mA f') := by
      have q := hr f'
      rw [show ([(f', w)] : List (Str × V)).lookup f' = some w from by simp [List.lookup]] at q
      exact q
    obtain ⟨u, hu, ru⟩ := RelO.some_of hm
    exact HandSPX.exc_get I1.kIn J T.ga T.gg T.exC (PySem.W.findObj_own T.hdC hno rfl (by rw [hl, hu])) (handed_of ru) ⟨w, H1, I1.tok _, ru, Aft.now A1 st w h4⟩
end
/-! targets -/
def gSet : List Nat → TGs
  | [] => gNil
  | i :: r => gCons (gName i) (gSet r)
def gOf (K : PySem.W.Frag) : Tg → TG
  | .name i => gName i
  | .names is => gTup K is.length (gSet is)
def tgIx : Tg → List Nat
  | .name i => [i]
  | .names is => is
def SG (Z : Sn) (e : Expr) (tg : Tg) : Prop := ∀ X W G φ fs, SX Z X W G φ fs → PG X e (gOf X.K tg)
def SGs (Z : Sn) (es : List Expr) (is : List Nat) : Prop := ∀ X W G φ fs, SX Z X W G φ fs → PGs X es (gSet is)
/-- a name that may be written -/
structure Nw (Z : Sn) (i : Nat) (x : Str) : Prop where
  at_ : Z.N[i]? = some x
  loc : Loc Z.sc x
  wr : Z.w x = true
def nwB (N : List Str) (sc : Scope) (w : Str → Bool) (i : Nat) (x : Str) : Bool := decide (N[i]? = some x) && (w x && match sc.names.lookup x with | some .local => true | some .cell => true | _ => false)
theorem nw_by {Z : Sn} {i : Nat} {x : Str} (h : nwB Z.N Z.sc Z.w i x = true) : Nw Z i x := by
  unfold nwB at h
  simp only [Bool.and_eq_true, decide_eq_true_eq] at h
  obtain ⟨h1, h3, h2⟩ := h
  refine ⟨h1, ?_, h3⟩
  split at h2
  · exact .inl (by assumption)
  · exact .inr (by assumption)
  · cases h2
section
variable {Z : Sn} {e : Expr} {es : List Expr} {pos : Pos} {x : Str} {i k : Nat} {is : List Nat}
theorem Nw.loc' {X : Cx} {W : WX} {G : List (Fr1 × L2.St)} {φ : List Fr1} {fs : List Env1} (n : Nw Z i x) (B : SX Z X W G φ fs) : Loc X.env.scope x := by
  rw [B.eS]
  exact n.loc
theorem Nw.fn' {X : Cx} {W : WX} {G : List (Fr1 × L2.St)} {φ : List Fr1} {fs : List Env1} (n : Nw Z i x) (B : SX Z X W G φ fs) : X.fn x = true ∨ X.env.scope.names.lookup x = some .local := by
  rw [B.eS]
  exact B.fn x n.wr n.loc
theorem SX.nd' {X : Cx} {W : WX} {G : List (Fr1 × L2.St)} {φ : List Fr1} {fs : List Env1} (B : SX Z X W G φ fs) : X.N.Nodup := by
  rw [B.eN]
  exact B.nd
theorem sg_name (n : Nw Z i x) : SG Z (.Name x pos) (.name i) := fun X W G φ fs B => pg_name B.nd' (by rw [B.eN]; exact n.at_) (n.loc' B) (n.fn' B)
theorem sgs_nil : SGs Z [] [] := fun X W G φ fs B => pgs_nil
theorem sgs_cons (n : Nw Z i x) (h : SGs Z es is) (hs : ∀ env, (assignEach (.Name x pos :: es) env).map (·.2) = assign (.Name x pos) env :: (assignEach es env).map (·.2)) : SGs Z (.Name x pos :: es) (i :: is) :=
  fun X W G φ fs B => pgs_cons (sg_name n X W G φ fs B) (h X W G φ fs B) (hs X.env)
theorem sg_names (h : SGs Z es is) (hn : ∀ env, (assignEach es env).length = is.length) (hst : ∀ env, (assignEach es env).findIdx? (·.1) = none) : SG Z (.Tuple es k pos) (.names is) :=
  fun X W G φ fs B => pg_tup B.calm (h X W G φ fs B) (hn X.env) (hst X.env)
end
section
variable {Γ : Gam} {ω ω' ω0 : Wd} {φ : List Fr1} {H H' H0 : Hp} {ρ ρ1 : Env1} {t t' : S0} {σ : L2.St}
theorem get_set_some {α : Type} {l : List α} {i j : Nat} {a b : α} (h : (l.set i a)[j]? = some b) : (i = j ∧ i < l.length ∧ b = a) ∨ (i ≠ j ∧ l[j]? = some b) := by
  by_cases hij : i = j
  · subst hij
    by_cases hl : i < l.length
    · rw [List.getElem?_set_self hl] at h
      cases h
      exact .inl ⟨rfl, hl, rfl⟩
    · rw [List.getElem?_eq_none (by rw [List.length_set]; omega)] at h
      cases h
  · rw [List.getElem?_set_ne hij] at h
    exact .inr ⟨hij, h⟩
theorem Rel.set (r : Rel Γ ω φ ω0 H0 ρ t σ H) {i : Nat} {d : D} {v : V} (hv : Dv Γ ω φ H d v) : Rel Γ ω φ ω0 H0 (ρ.set i (.pl d)) t (σ.set i (some v)) H := by
  refine ⟨r.st, by rw [List.length_set, List.length_set]; exact r.len, fun j d' e => ?_, fun j xs e => ?_, fun j l xs ys a e1 e2 e3 e4 => ?_, r.wx, r.keep⟩
  · rcases get_set_some e with ⟨rfl, hl, q⟩ | ⟨hn, q⟩
    · cases q
      exact ⟨v, List.getElem?_set_self (by rw [← r.len]; exact hl), hv⟩
    · rw [List.getElem?_set_ne hn]
      exact r.slot j d' q
  · rcases get_set_some e with ⟨rfl, hl, q⟩ | ⟨hn, q⟩
    · cases q
    · rw [List.getElem?_set_ne hn]
      exact r.own j xs q
  · rcases get_set_some e1 with ⟨rfl, hl, q⟩ | ⟨hn, q⟩
    · cases q
    · rcases get_set_some e2 with ⟨rfl, hl, q2⟩ | ⟨hn2, q2⟩
      · cases q2
      · rw [List.getElem?_set_ne hn] at e3
        rw [List.getElem?_set_ne hn2] at e4
        exact r.dist j l xs ys a q q2 e3 e4
theorem set_ok {is : List Nat} {xs : List D} {vs : List V} {Q : L2.St → Hp → Prop} (h : setAll ρ is xs = some ρ1) (hv : DvL Γ ω φ H xs vs) (r : Rel Γ ω φ ω0 H0 ρ t σ H)
    (q : ∀ σ1, Rel Γ ω φ ω0 H0 ρ1 t σ1 H → (∀ vs', (∀ j ∈ is, j ∈ vs') → wipe σ1 vs' = wipe σ vs') → Q σ1 H) : gSet is vs σ H Q := by
  induction is generalizing ρ σ xs vs with
  | nil =>
    cases xs with
    | cons _ _ => cases h
    | nil =>
      cases h
      cases hv
      exact ⟨rfl, q σ r fun _ _ => rfl⟩
  | cons i is ih =>
    cases xs with
    | nil => cases h
    | cons x xs =>
      cases hv with
      | cons hv hvs =>
        refine ⟨_, _, rfl, ih (σ := σ.set i (some _)) h hvs (r.set hv) fun σ1 r1 w1 => q σ1 r1 fun vs' hm => ?_⟩
        rw [w1 vs' fun j hj => hm j (List.mem_cons_of_mem _ hj)]
        exact wipe_set (hm i List.mem_cons_self)
where
  wipe_set {σ : L2.St} {i : Nat} {o : Option V} : ∀ {vs : List Nat}, i ∈ vs → wipe (σ.set i o) vs = wipe σ vs := by
    intro vs hm
    induction vs with
    | nil => cases hm
    | cons v vs ih =>
      show (wipe (σ.set i o) vs).set v none = (wipe σ vs).set v none
      by_cases hv : i ∈ vs
      · rw [ih hv]
      · have e : i = v := by
          rcases List.mem_cons.mp hm with e | e
          · exact e
          · exact absurd e hv
        subst e
        have comm : ∀ {vs : List Nat}, i ∉ vs → wipe (σ.set i o) vs = (wipe σ vs).set i o := by
          intro vs hn
          induction vs with
          | nil => rfl
          | cons u us ih2 =>
            show (wipe (σ.set i o) us).set u none = ((wipe σ us).set u none).set i o
            rw [ih2 (fun z => hn (List.mem_cons_of_mem _ z))]
            exact List.set_comm _ _ (fun z => hn (by rw [z]; exact List.mem_cons_self))
        rw [comm hv, List.set_set]
theorem tg_ok {tg : Tg} {d : D} {v : V} {Q : L2.St → Hp → Prop} (h : bindTg tg d ρ = some ρ1) (hv : Dv Γ ω φ H d v) (r : Rel Γ ω φ ω0 H0 ρ t σ H)
    (q : ∀ σ1, Rel Γ ω φ ω0 H0 ρ1 t σ1 H → (∀ vs', (∀ j ∈ tgIx tg, j ∈ vs') → wipe σ1 vs' = wipe σ vs') → Q σ1 H) : gOf Γ.K tg v σ H Q := by
  cases tg with
  | name i =>
    cases h
    exact q _ (r.set hv) fun vs' hm => set_ok.wipe_set (hm i List.mem_cons_self)
  | names is =>
    cases d <;> try cases h
    rename_i xs
    have h : setAll ρ is xs = some ρ1 := h
    cases hv with
    | tup e k =>
      refine ⟨_, _, rfl, e, ?_, set_ok h k r q⟩
      rw [← k.length]
      exact len_of h
where
  len_of {ρ ρ1 : Env1} {is : List Nat} {xs : List D} (h : setAll ρ is xs = some ρ1) : xs.length = is.length := by
    induction is generalizing ρ xs with
    | nil =>
      cases xs with
      | nil => rfl
      | cons _ _ => cases h
    | cons i is ih =>
      cases xs with
      | nil => cases h
      | cons x xs => rw [List.length_cons, List.length_cons, ih h]
end
/-! what is walked -/
/-- the walk gives ds, as long as the heap only grows -/
def ItOk (Γ : Gam) (ω : Wd) (φ : List Fr1) (H : Hp) (J : It) (ds : List D) : Prop := ∃ (Gd : Hp → Prop) (Y : Nat → Hp → V → Hp → Prop), Walk J ds.length Gd Y ∧ (∀ H1, Stay H H1 → Gd H1) ∧
  ∀ i ω1 H1 x H2, Stay H H1 → (ω = none ∨ ω1 = ω) → i < ds.length → Y i H1 x H2 → ∃ d, ds[i]? = some d ∧ (H2 = H1 ∨ ∃ T o, H1 T = none ∧ H2 = upd H1 T o) ∧ Dv Γ ω1 φ H2 d x
def tI (Γ : Gam) (φ : List Fr1) (G : List (Fr1 × L2.St)) (fs : List Env1) (W : WX) (f : Env1 → M (List D)) : TI := fun σ H R => ∃ ω0 H0 ρ ω t, SR Γ φ G fs ω0 H0 σ ρ ω t H ∧ Aft Γ ω φ H (f ρ t) (fun ds ω' t' H' => ∀ J, ItOk Γ ω' φ H' J ds → R J H') fun c d H' => W c d σ H'
def SI (Z : Sn) (tg it : Expr) (m : CL) : Prop := ∀ X W G φ fs, SX Z X W G φ fs → PI X tg it (tI Z.Γ φ G fs W (m (Z.c fs)))
section
variable {Γ : Gam} {ω : Wd} {φ : List Fr1} {H : Hp} {K : PySem.W.Frag}
theorem ints_dv (ns : List Int) : DvL Γ ω φ H (ns.map D.int) (ns.map V.int) := by
  induction ns with
  | nil => exact .nil
  | cons n ns ih => exact .cons (.int n) ih
theorem walk_zipT {a b : Addr} {xs ys : List V} {n : Nat} (hn : n = min xs.length ys.length) : Walk (RZ.ItzT K a b) n (fun H => SqT K H a xs ∧ SqT K H b ys) (YPair (fun i => xs[i]?) (fun i => ys[i]?)) := by
  subst hn
  refine ⟨fun i H hi h => ⟨xs, ys, xs[i]'(by omega), ys[i]'(by omega), h.1, h.2, List.getElem?_eq_getElem _, List.getElem?_eq_getElem _⟩, fun H h => ⟨xs, ys, h.1, h.2, by omega⟩, fun i H x H' hi h y => ?_⟩
  obtain ⟨T, v, u, rfl, hT, rfl, h1, h2⟩ := y
  exact ⟨T, v, u, rfl, hT, rfl, h1 _ h.1, h2 _ h.2⟩
theorem it_list {a : Addr} {vs : List V} {ds : List D} (hs : ∀ H1, Stay H H1 → SqL K H1 a vs) (k : DvL Γ ω φ H ds vs) : ItOk Γ ω φ H (Itl K a) ds := by
  refine ⟨fun H => SqL K H a vs, YAt vs, by rw [k.length]; exact walk_list, hs, fun i ω1 H1 x H2 st hw hi y => ?_⟩
  obtain ⟨rfl, hx⟩ := y
  obtain ⟨d, hd⟩ : ∃ d, ds[i]? = some d := ⟨ds[i], List.getElem?_eq_getElem hi⟩
  obtain ⟨v, hv, dv⟩ := k.get hd
  rw [hx] at hv
  cases hv
  exact ⟨d, hd, .inl rfl, dv.mono st hw (fun _ _ h => h)⟩
theorem it_tup {a : Addr} {vs : List V} {ds : List D} (hs : ∀ H1, Stay H H1 → SqT K H1 a vs) (k : DvL Γ ω φ H ds vs) : ItOk Γ ω φ H (Itt K a) ds := by
  refine ⟨fun H => SqT K H a vs, YAt vs, by rw [k.length]; exact walk_tup, hs, fun i ω1 H1 x H2 st hw hi y => ?_⟩
  obtain ⟨rfl, hx⟩ := y
  obtain ⟨d, hd⟩ : ∃ d, ds[i]? = some d := ⟨ds[i], List.getElem?_eq_getElem hi⟩
  obtain ⟨v, hv, dv⟩ := k.get hd
  rw [hx] at hv
  cases hv
  exact ⟨d, hd, .inl rfl, dv.mono st hw (fun _ _ h => h)⟩
theorem it_range {n : Nat} : ItOk Γ ω φ H (Itr 0 n) ((List.range n).map fun (k : Nat) => D.int (k : Int)) := by
  refine ⟨fun _ => True, YFn fun i => .int (0 + i), by rw [List.length_map, List.length_range]; exact walk_range, fun _ _ => trivial, fun i ω1 H1 x H2 st hw hi y => ?_⟩
  rw [List.length_map, List.length_range] at hi
  obtain ⟨rfl, rfl⟩ := y
  refine ⟨.int i, by simp [hi], .inl rfl, ?_⟩
  show Dv Γ ω1 φ _ (.int (i : Int)) (.int (0 + (i : Nat)))
  rw [show (0 : Int) + (i : Nat) = (i : Int) by omega]
  exact .int _
theorem it_zip {vs us : List V} {ds es : List D} {J : It} (w : Walk J (min vs.length us.length) (fun H1 => True) (YPair (fun i => vs[i]?) (fun i => us[i]?)) ∨ ∃ Gd : Hp → Prop, (∀ H1, Stay H H1 → Gd H1) ∧ Walk J (min vs.length us.length) Gd (YPair (fun i => vs[i]?) (fun i => us[i]?)))
    (k : DvL Γ ω φ H ds vs) (k2 : DvL Γ ω φ H es us) : ItOk Γ ω φ H J ((ds.zip es).map fun p => D.tup [p.1, p.2]) := by
  obtain ⟨Gd, hG, w⟩ : ∃ Gd : Hp → Prop, (∀ H1, Stay H H1 → Gd H1) ∧ Walk J (min vs.length us.length) Gd (YPair (fun i => vs[i]?) (fun i => us[i]?)) := by
    rcases w with w | w
    · exact ⟨_, fun _ _ => trivial, w⟩
    · exact w
  have hl : ((ds.zip es).map fun p => D.tup [p.1, p.2]).length = min vs.length us.length := by
    rw [List.length_map, List.length_zip, k.length, k2.length]
  refine ⟨Gd, YPair (fun i => vs[i]?) (fun i => us[i]?), by rw [hl]; exact w, hG, fun i ω1 H1 x H2 st hw hi y => ?_⟩
  rw [hl] at hi
  obtain ⟨T, v, u, rfl, hT, rfl, hv, hu⟩ := y
  have i1 : i < ds.length := by rw [k.length]; omega
  have i2 : i < es.length := by rw [k2.length]; omega
  obtain ⟨v', hv', dv⟩ := k.get (List.getElem?_eq_getElem i1)
  obtain ⟨u', hu', du⟩ := k2.get (List.getElem?_eq_getElem i2)
  have hv : vs[i]? = some v := hv
  have hu : us[i]? = some u := hu
  rw [hv] at hv'
  rw [hu] at hu'
  cases hv'
  cases hu'
  refine ⟨.tup [ds[i], es[i]], by simp [List.getElem?_zip_eq_some, i1, i2], .inr ⟨T, _, hT, rfl⟩, ?_⟩
  have s2 : Stay H (upd H1 T (.tup [v, u])) := st.trans (stay_new hT)
  exact .tup (.inl (.inl upd_same)) (.cons (dv.mono s2 hw fun _ _ h => h) (.cons (du.mono s2 hw fun _ _ h => h) .nil))
theorem pi_or {X : Cx} {tg it : Expr} {w1 w2 : TI} (h1 : PI X tg it w1) (h2 : PI X tg it w2) : PI X tg it (fun σ H R => w1 σ H R ∨ w2 σ H R) := by
  refine ⟨fun pins s σ H R I h => ?_⟩
  rcases h with h | h
  · exact h1.run pins s σ H R I h
  · exact h2.run pins s σ H R I h
theorem pi_imp {X : Cx} {tg it : Expr} {w w' : TI} (h : PI X tg it w) (k : ∀ σ H R, w' σ H R → w σ H R) : PI X tg it w' := ⟨fun pins s σ H R I q => h.run pins s σ H R I (k _ _ _ q)⟩
end
section
variable {Z : Sn} {a b e tg : Expr} {ma mb m : CE} {pos p : Pos} {ml : CL}
theorem si_over (he : SE Z e m) : SI Z tg e (iOver m) := by
  refine fun X W G φ fs B => pi_imp (pi_or (pi_list (he X W G φ fs B)) (pi_tup (he X W G φ fs B))) fun σ H R h => ?_
  obtain ⟨ω0, H0, ρ, ω, t, Rr, A⟩ := h
  cases hm : m (Z.c fs) ρ t with
  | bad =>
    have e : iOver m (Z.c fs) ρ t = .bad := bind_bad hm
    rw [e] at A
    exact A.elim
  | exc c x t' =>
    have e : iOver m (Z.c fs) ρ t = .exc c x t' := bind_exc hm
    rw [e] at A
    exact .inl ⟨ω0, H0, ρ, ω, t, Rr, by rw [hm]; exact A⟩
  | ok d t' =>
    have A2 := A
    have e : iOver m (Z.c fs) ρ t = M.opt (seqD d) t' := bind_ok hm
    rw [e] at A
    cases d <;> try exact A.elim
    · refine .inr ⟨ω0, H0, ρ, ω, t, Rr, ?_⟩
      rw [hm]
      intro ω' H' w k s v hv
      cases hv with
      | tup e1 d1 => exact ⟨_, rfl, ⟨_, by rw [B.eK]; exact e1⟩, A ω' H' w k s _ (by rw [B.eK]; exact it_tup (fun H1 st => sqT_stay e1 st) d1)⟩
    · refine .inl ⟨ω0, H0, ρ, ω, t, Rr, ?_⟩
      rw [hm]
      intro ω' H' w k s v hv
      cases hv with
      | lst e1 d1 => exact ⟨_, rfl, ⟨_, e1.sql⟩, A ω' H' w k s _ (it_list (fun H1 st => (sqF_stay e1 st).sql) d1)⟩
    · refine .inl ⟨ω0, H0, ρ, ω, t, Rr, ?_⟩
      rw [hm]
      intro ω' H' w k s v hv
      cases hv with
      | scr _ e1 => exact ⟨_, rfl, ⟨_, by rw [B.eK]; exact e1.sql⟩, A ω' H' w k s _ (by rw [B.eK]; exact it_list (fun H1 st => (scr_stay e1 st).sql) (ints_dv _))⟩
theorem si_range {tg : Expr} {x : Str} (hx : x = "range") (hg : glB Z.sc x = true) (hmg : Z.Γ.mg "range" = none) (he : SE Z e m) (hs : ∀ env, starEach [e] env = [(false, eval e env)]) : SI Z tg (.Call (.Name x p) [e] [] pos) (iRange m) := by
  subst hx
  refine fun X W G φ fs B => pi_imp (pi_range1 (B.gl hg) (by rw [B.eM]; exact hmg) (pa_cons (he X W G φ fs B) pa_nil (hs X.env)) (hs X.env)) fun σ H R h => ?_
  obtain ⟨ω0, H0, ρ, ω, t, Rr, A⟩ := h
  refine tV_bind Rr A fun x v ω1 t1 H1 R1 w1 k1 hv A1 => ?_
  cases hv <;> try exact A1.elim
  rename_i j
  have A1 : Aft Z.Γ ω1 φ H1 ((if decide (-(2 ^ 62) ≤ j) && decide (j < 2 ^ 62) then pure ((List.range j.toNat).map fun (k : Nat) => D.int (k : Int)) else M.fail : M (List D)) t1) (fun ds ω' t' H' => ∀ J, ItOk Z.Γ ω' φ H' J ds → R J H') fun c d H' => W c d σ H' := A1
  split at A1
  · rename_i hz
    simp only [Bool.and_eq_true, decide_eq_true_eq] at hz
    exact ⟨j, rfl, hz.1, hz.2, Aft.now A1 R1.st _ it_range⟩
  · exact A1.elim
theorem si_zip {x : Str} {elts : List Expr} {kk : Nat} {tpos : Pos} (hx : x = "zip") (hg : glB Z.sc x = true) (hmg : Z.Γ.mg "zip" = none) (ha : SE Z a ma) (hb : SE Z b mb) (hs : ∀ env, starEach [a, b] env = (false, eval a env) :: starEach [b] env) (hs2 : ∀ env, starEach [b] env = [(false, eval b env)])
    (hpl : ∀ env, (backTo pos (starEach [b] env)).any (·.1) = false) : SI Z (.Tuple elts kk tpos) (.Call (.Name x p) [a, b] [] pos) (iZip ma mb) := by
  subst hx
  refine fun X W G φ fs B => pi_imp (RZ.pi_zipA (B.gl hg) (by rw [B.eM]; exact hmg) (pa_cons (ha X W G φ fs B) (pa_cons (hb X W G φ fs B) pa_nil (hs2 X.env)) (hs X.env)) (hs X.env) (hpl X.env)) fun σ H R h => ?_
  obtain ⟨ω0, H0, ρ, ω, t, Rr, A⟩ := h
  refine tV_bind Rr A fun x v ω1 t1 H1 R1 w1 k1 hv A1 => ?_
  refine tV_bind R1 A1 fun y u ω2 t2 H2 R2 w2 k2 hu A2 => ?_
  cases x <;> try exact A2.elim
  · cases y <;> try exact A2.elim
    have hv := hv.step R1 w2 k2
    rw [B.eK]
    cases hv with
    | tup e1 d1 =>
      cases hu with
      | tup e2 d2 =>
        refine ⟨_, _, _, _, rfl, .inr ⟨e1, e2, Aft.now A2 R2.st _ (it_zip (.inr ⟨_, fun H1 st => ⟨sqT_stay e1 st, sqT_stay e2 st⟩, walk_zipT rfl⟩) d1 d2)⟩⟩
  · cases y <;> try exact A2.elim
    have hv := hv.step R1 w2 k2
    rw [B.eK]
    cases hv with
    | lst e1 d1 =>
      cases hu with
      | lst e2 d2 =>
        refine ⟨_, _, _, _, rfl, .inl ⟨e1.sql, e2.sql, Aft.now A2 R2.st _ (it_zip (.inr ⟨_, fun H1 st => ⟨(sqF_stay e1 st).sql, (sqF_stay e2 st).sql⟩, walk_zip rfl⟩) d1 d2)⟩⟩
end
end Pv
end

section
set_option Elab.async false
set_option linter.all false
set_option maxRecDepth 100000
set_option maxHeartbeats 4000000
/-! comprehensions -/
namespace Pv
open PySem PySem.Spec PyProof.Rows L2
section
variable {Γ : Gam} {ω ω1 : Wd} {φ : List Fr1} {H H1 : Hp} {t : S0} {D0 : Addr} {vs : List V} {o : HO}
theorem stay_own (h : H D0 = some (.lst vs)) : Stay H (upd H D0 o) := fun b u e i => by
  rw [upd_ne (fun z => by
    rw [z, h] at e
    cases e
    cases i)]
  exact e
theorem st_own (s : StRel Γ ω t H) (h : H D0 = some (.lst vs)) (n : ¬ inW ω D0) : StRel Γ ω t (upd H D0 o) := by
  have k : ∀ b u, H b = some u → b ≠ D0 → upd H D0 o b = some u := fun b u e hb => by
    rw [upd_ne hb]
    exact e
  refine ⟨fun p hp => ?_, ?_⟩
  · obtain ⟨ps, h1, h2, h3⟩ := s.tabs p hp
    refine ⟨ps, k _ _ h1 (fun z => ?_), h2, fun pos cv hc => ?_⟩
    · rw [z, h] at h1
      cases h1
    · obtain ⟨c, e1, e2⟩ := h3 pos cv hc
      refine ⟨c, e1, k _ _ e2 (fun z => ?_)⟩
      rw [z, h] at e2
      unfold LamX.CodeO at e2
      cases e2
  · have d := s.ds
    cases ω with
    | none => cases t <;> exact d
    | some w =>
      cases t with
      | none => exact d
      | some z =>
        obtain ⟨a, l, c⟩ := w
        obtain ⟨h1, h2, oc, h3⟩ := d
        exact ⟨k _ _ h1 (fun z => n ⟨a, l, c, rfl, .inl z.symm⟩), k _ _ h2 (fun z => n ⟨a, l, c, rfl, .inr z.symm⟩), oc, k _ _ h3 (fun z => by
          rw [z, h] at h3
          cases h3)⟩
theorem keep_own (k : Keep ω H1 H) (h : H1 D0 = none) : Keep ω H1 (upd H D0 o) := by
  refine ⟨fun b u e n hx => ?_, fun b ps e => ?_⟩
  · rw [upd_ne (ne_of_none e h)]
    exact k.obj b u e n hx
  · obtain ⟨m, z⟩ := k.tab b ps e
    exact ⟨m, by rw [upd_ne (ne_of_none e h)]; exact z⟩
theorem StRel.notIn (s : StRel Γ ω t H) (h : H D0 = none) : ¬ inW ω D0 := fun ⟨a, l, c, e, hb⟩ => by
  have d := s.ds
  subst e
  cases t with
  | none => exact d
  | some z =>
    obtain ⟨h1, h2, _⟩ := d
    rcases hb with rfl | rfl
    · rw [h1] at h
      cases h
    · rw [h2] at h
      cases h
theorem notIn_step {u : HO} (n : ¬ inW ω D0) (h : H D0 = some u) (w : Wx ω H ω1) : ¬ inW ω1 D0 := fun z => by
  rcases w with rfl | ⟨_, w⟩
  · exact n z
  · rw [w _ z] at h
    cases h
theorem keep_there (k : Keep ω H H1) (w : Wx ω H ω1) (s1 : StRel Γ ω1 t H1) {b : Addr} (h : H b ≠ none) : H1 b ≠ none := by
  cases e : H b with
  | none => exact absurd e h
  | some o =>
    by_cases hw : inW ω b
    · have : ω1 = ω := by
        rcases w with w | ⟨w, _⟩
        · exact w
        · rw [w] at hw
          obtain ⟨_, _, _, z, _⟩ := hw
          cases z
      subst this
      exact fun z => s1.notIn z hw
    · by_cases ht : ∃ ps, o = .tbl ps
      · obtain ⟨ps, rfl⟩ := ht
        obtain ⟨m, z⟩ := k.tab b ps e
        rw [z]
        simp
      · rw [k.obj b o e (fun ps z => ht ⟨ps, z⟩) hw]
        simp
mutual
theorem noLam_dv {n : Nat} : ∀ {d : D} {v : V}, noLam n d = true → Dv Γ ω φ H d v → Dv Γ ω (φ.take n) H d v
  | _, _, _, .non => .non
  | _, _, _, .bl b => .bl b
  | _, _, _, .int i => .int i
  | _, _, _, .str s => .str s
  | _, _, h, .tup e k => .tup e (noLams_dv (by unfold noLam at h; exact h) k)
  | _, _, h, .lst e k => .lst e (noLams_dv (by unfold noLam at h; exact h) k)
  | _, _, _, .scr ns e => .scr ns e
  | _, _, _, .ty s => .ty s
  | _, _, _, .cls h => .cls h
  | _, _, _, .err0 h e => .err0 h e
  | _, _, h, .err1 h1 h2 h3 k => .err1 h1 h2 h3 (noLam_dv (by unfold noLam at h; exact h) k)
  | .lam f _, _, h, .lam h1 h2 h3 h4 h5 => .lam (by
      unfold noLam at h
      rw [List.getElem?_take_of_lt (of_decide_eq_true h)]
      exact h1) h2 h3 h4 h5
  | _, _, _, .draw h => .draw h
theorem noLams_dv {n : Nat} : ∀ {ds : List D} {vs : List V}, noLams n ds = true → DvL Γ ω φ H ds vs → DvL Γ ω (φ.take n) H ds vs
  | _, _, _, .nil => .nil
  | _, _, h, .cons k ks => by
    unfold noLams at h
    obtain ⟨h1, h2⟩ := Bool.and_eq_true_iff.mp h
    exact .cons (noLam_dv h1 k) (noLams_dv h2 ks)
end
theorem noLams_get {n : Nat} : ∀ {ds : List D} {i : Nat} {d : D}, noLams n ds = true → ds[i]? = some d → noLam n d = true
  | [], _, _, _, e => by simp at e
  | x :: xs, 0, d, h, e => by
    cases e
    unfold noLams at h
    exact (Bool.and_eq_true_iff.mp h).1
  | x :: xs, i + 1, d, h, e => by
    unfold noLams at h
    exact noLams_get (Bool.and_eq_true_iff.mp h).2 (by simpa using e)
theorem wipe_get {σ : L2.St} {i : Nat} : ∀ {vs : List Nat}, i ∉ vs → (wipe σ vs)[i]? = σ[i]?
  | [], _ => rfl
  | v :: vs, h => by
    show ((wipe σ vs).set v none)[i]? = _
    rw [List.getElem?_set_ne (fun z => h (by rw [z]; exact List.mem_cons_self))]
    exact wipe_get (fun z => h (List.mem_cons_of_mem _ z))
theorem wipeE_some {ρ : Env1} {i : Nat} {s : Slot} (hs : s ≠ .un) : ∀ {vs : List Nat}, (wipeE ρ vs)[i]? = some s → i ∉ vs ∧ ρ[i]? = some s
  | [], h => ⟨fun z => (nomatch z), h⟩
  | v :: vs, h => by
    have h : ((wipeE ρ vs).set v .un)[i]? = some s := h
    rcases get_set_some h with ⟨_, _, q⟩ | ⟨hn, q⟩
    · exact absurd q hs
    · obtain ⟨a, b⟩ := wipeE_some hs q
      exact ⟨fun z => (List.mem_cons.mp z).elim (fun y => hn y.symm) a, b⟩
theorem wipeE_len {ρ : Env1} : ∀ vs : List Nat, (wipeE ρ vs).length = ρ.length
  | [] => rfl
  | v :: vs => by
    show ((wipeE ρ vs).set v .un).length = _
    rw [List.length_set]
    exact wipeE_len vs
/-- the block's slots -/
theorem block_rel {G : List (Fr1 × L2.St)} {fs : List Env1} {ω0 ω2 : Wd} {H0 H2 : Hp} {σ : L2.St} {ρ : Env1} {t2 : S0} {own : List Nat} (R : SR Γ φ G fs ω0 H0 σ ρ ω t H) (w : Wx ω H ω2) (k : Keep ω H H2) (s : StRel Γ ω2 t2 H2) :
    Rel Γ ω2 [] ω2 H2 (wipeE (ρ.map cleanS) own) t2 (wipe σ own) H2 := by
  have noown : ∀ (i : Nat) (xs : List D), (wipeE (ρ.map cleanS) own)[i]? = some (.own xs) → False := fun i xs e => by
    obtain ⟨_, q⟩ := wipeE_some (fun z => by cases z) e
    rw [List.getElem?_map] at q
    cases hp : ρ[i]? with
    | none =>
      rw [hp] at q
      cases q
    | some sl =>
      rw [hp] at q
      cases sl with
      | pl d =>
        have q : some (if noLam 0 d then Slot.pl d else .un) = some (Slot.own xs) := q
        split at q <;> cases q
      | _ => cases q
  refine ⟨s, by rw [wipeE_len, List.length_map, wipe_length, R.rel.len], fun i d e => ?_, fun i xs e => (noown i xs e).elim, fun i _ xs _ _ e => (noown i xs e).elim, .refl _ _, .refl _ _⟩
  obtain ⟨hn, q⟩ := wipeE_some (fun z => by cases z) e
  rw [List.getElem?_map] at q
  cases hp : ρ[i]? with
  | none =>
    rw [hp] at q
    cases q
  | some sl =>
    rw [hp] at q
    cases sl with
    | pl d' =>
      have q : some (if noLam 0 d' then Slot.pl d' else .un) = some (Slot.pl d) := q
      split at q
      · rename_i hl
        cases q
        obtain ⟨v, hv, dv⟩ := R.rel.slot i d hp
        rw [wipe_get hn]
        have dv2 := noLam_dv hl dv
        exact ⟨v, hv, dv2.mono (k.stay R.st) w.mono fun _ _ h => h⟩
      · cases q
    | _ => cases q
end
def STs (Z : Sn) (es : List Expr) (m : CE) : Prop := ∀ X W G φ fs, SX Z X W G φ fs → PTs X es (tBl Z.Γ φ G fs W fun ρ => m (Z.c fs) ρ >>= vb)
section
variable {Z : Sn} {e : Expr} {m : CE}
theorem pts_imp {X : Cx} {e : List Expr} {t t' : TT} (h : PTs X e t) (k : ∀ σ H Q, t' σ H Q → t σ H Q) : PTs X e t' := ⟨fun pins s σ H Q I q => h.run pins s σ H Q I (k _ _ _ q)⟩
theorem sts_nil : STs Z [] (eK (.bl true)) := fun X W G φ fs B => pts_imp pts_nil fun σ H Q h => by
  obtain ⟨ω0, H0, ρ, ω, t, R, A⟩ := h
  exact Aft.now (a := true) A R.st
theorem sts_one (h : ST Z e m) : STs Z [e] m := fun X W G φ fs B => pts_one (h X W G φ fs B)
end
abbrev Sn.blk (Z : Sn) (sc : Scope) : Sn := { Z with fl := false, sc := relS sc Z.sc, w := fun x => sc.names.lookup x == some .cell || sc.names.lookup x == some .local }
theorem blk_sx {Z : Sn} {X : Cx} {W : WX} {G : List (Fr1 × L2.St)} {φ : List Fr1} {fs : List Env1} (B : SX Z X W G φ fs) (s : Shared) (H : Hp) (scope : Scope) (cl : List (Str × Addr)) (C : Addr) (fp : List Addr) :
    SX (Z.blk scope) (X.blk s H scope (compEnvC scope cl C X.env) fp) (fun _ _ _ _ => False) [] [] [] where
  eK := B.eK
  eP := B.eP
  eM := B.eM
  eN := B.eN
  eS := by
    show relS scope X.env.scope = _
    rw [B.eS]
  gok := B.gok
  calm := B.calm
  nd := B.nd
  tk := fun u s' ⟨_, _, _, _, _, _, _, _, _, _, _, _, _, _, _, _, z⟩ => z
  cg := ⟨B.cg.gd, fun p hp => (nomatch hp), fun p hp => (nomatch hp)⟩
  fg := ⟨fun z => (nomatch z), fun z => (nomatch z)⟩
  fn := fun x hw _ => by
    have hw : (scope.names.lookup x == some .cell || scope.names.lookup x == some .local) = true := hw
    rcases Bool.or_eq_true_iff.mp hw with hx | hx
    · exact .inl hx
    · exact .inr (lookup_relS_keep (by decide) (eq_of_beq hx))
  room := B.room
  hφ := rfl
  prom := B.prom
  tb := B.tb
  code := fun z => (nomatch z)
theorem nx_ok {α : Type} {m : M α} {t t' : S0} {a : α} (h : nx m t = .ok a t') : m t = .ok a t' := by
  unfold nx at h
  split at h
  · cases h
  · exact h
theorem nx_exc {α : Type} {m : M α} {t t' : S0} {c : Nat} {x : Option D} (h : nx m t = .exc c x t') : False := by
  unfold nx at h
  split at h
  · cases h
  · rename_i hn
    exact hn _ _ _ h
theorem aft_cases {α β : Type} {Γ : Gam} {ω : Wd} {φ : List Fr1} {H : Hp} {t : S0} {m : M α} {f : α → M β} {Q : β → Wd → S0 → Hp → Prop} {E : XK} (A : Aft Γ ω φ H ((nx m >>= f) t) Q E) : ∃ a t', m t = .ok a t' ∧ Aft Γ ω φ H (f a t') Q E := by
  cases h : nx m t with
  | bad =>
    rw [bind_bad h] at A
    exact A.elim
  | exc c x t' => exact (nx_exc h).elim
  | ok a t' =>
    rw [bind_ok h] at A
    exact ⟨a, t', nx_ok h, A⟩
section
variable {Z : Sn} {elt tge iter : Expr} {ifs : List Expr} {scope : Scope} {own : List (Str × Nat)} {pos : Pos} {tg : Tg} {mi : CL} {mt me : CE}
/-- what a comprehension does, by the layer's reading -/
theorem comp_run {X : Cx} {W : WX} {G : List (Fr1 × L2.St)} {φ : List Fr1} {fs : List Env1} {ω0 ω : Wd} {H0 H : Hp} {ρ : Env1} {t : S0} {σ : L2.St} {Qg : D → Wd → S0 → Hp → Prop} {Q' : VK}
    (hQ : ∀ (D0 : Addr) (acc : List D) (vs : List V) (t2 : S0) (ω2 : Wd) (H2 : Hp), H D0 = none → H2 D0 = some (.lst vs) → DvL Z.Γ ω2 [] H2 acc vs → ¬ inW ω2 D0 → StRel Z.Γ ω2 t2 H2 → (∀ o, Qg (.lst acc) ω2 t2 (upd H2 D0 o)) → Q' (.ref D0) H2) (B : SX Z X W G φ fs) (hix : ∀ j ∈ tgIx tg, j ∈ own.map (·.2))
    (R : SR Z.Γ φ G fs ω0 H0 σ ρ ω t H) (A : Aft Z.Γ ω φ H (eComp (own.map (·.2)) tg mi mt me (Z.c fs) ρ t) Qg fun c d H' => W c d σ H') :
    tLc (tI Z.Γ φ G fs W (mi (Z.c fs))) (gOf X.K tg) (tBl Z.Γ [] [] [] (fun _ _ _ _ => False) fun ρ => mt ((Z.blk scope).c []) ρ >>= vb) (tV Z.Γ [] [] [] (fun _ _ _ _ => False) (me ((Z.blk scope).c []))) (own.map (·.2)) σ H Q' := by
  refine ⟨ω0, H0, ρ, ω, t, R, (aft_bind A).imp (fun ds ω1 t1 H1 w1 k1 s1 A1 J hJ D0 hD => ?_) fun _ _ _ e => e⟩
  have R1 := R.step w1 k1 s1
  split at A1
  case isFalse => exact A1.elim
  rename_i hnl
  obtain ⟨Gd, Y, wk, hGd, hY⟩ := hJ
  let f : D → List D → M (List D) := fun x acc => M.opt (bindTg tg x (wipeE (ρ.map cleanS) (own.map (·.2)))) >>= fun ρ1 =>
    nx (mt ((Z.blk scope).c []) ρ1 >>= vb) >>= fun t => if t then nx (me ((Z.blk scope).c []) ρ1) >>= fun y => if acc.length < sizeLine then pure (acc ++ [y]) else M.fail else pure acc
  have A1 : Aft Z.Γ ω1 φ H1 ((mloop f ds [] >>= fun ys => pure (D.lst ys)) t1) Qg fun c d H' => W c d σ H' := A1
  refine lc_it wk (fun i H => ∃ (acc : List D) (vs : List V) (t2 : S0) (ω2 : Wd), H D0 = some (.lst vs) ∧ DvL Z.Γ ω2 [] H acc vs ∧ Wx ω1 H1 ω2 ∧ Keep ω1 H1 H ∧ StRel Z.Γ ω2 t2 H ∧ ¬ inW ω2 D0 ∧
      Aft Z.Γ ω1 φ H1 ((mloop f (ds.drop i) acc >>= fun ys => pure (D.lst ys)) t2) Qg fun c d H' => W c d σ H')
    ⟨[], [], t1, ω1, upd_same, .nil, .refl _ _, keep_new hD, R1.st.new hD, R1.st.notIn hD, A1⟩ (fun i H _ ⟨_, _, _, _, _, _, _, k, _⟩ => hGd H (k.stay R1.st)) (fun i x H H' hi hp hy => ?_) fun H hp => ?_
  · obtain ⟨acc, vs, t2, ω2, hD2, dv, w2, k2, s2, n2, A2⟩ := hp
    obtain ⟨d, hd, hH, dx⟩ := hY i ω2 H x H' (k2.stay R1.st) w2.mono hi hy
    have hdr : ds.drop i = d :: ds.drop (i + 1) := by
      have q := List.drop_eq_getElem_cons hi
      rw [List.getElem?_eq_getElem hi] at hd
      cases hd
      exact q
    rw [hdr] at A2
    have A2 : Aft Z.Γ ω1 φ H1 (((f d acc >>= mloop f (ds.drop (i + 1))) >>= fun ys => pure (D.lst ys)) t2) Qg fun c d H' => W c d σ H' := A2
    rw [M.assoc] at A2
    show gOf X.K tg x _ H' _
    -- the heap at the turn
    have base : H' D0 = some (.lst vs) ∧ Keep ω1 H1 H' ∧ StRel Z.Γ ω2 t2 H' ∧ Stay H H' := by
      rcases hH with rfl | ⟨T, o, hT, rfl⟩
      · exact ⟨hD2, k2, s2, .refl _⟩
      · refine ⟨by rw [upd_ne (ne_of_none hD2 hT)]; exact hD2, ?_, s2.new hT, stay_new hT⟩
        refine ⟨fun b u e n hx => ?_, fun b ps e => ?_⟩
        · have z := k2.obj b u e n hx
          rw [upd_ne (ne_of_none z hT)]
          exact z
        · obtain ⟨m, z⟩ := k2.tab b ps e
          exact ⟨m, by rw [upd_ne (ne_of_none z hT)]; exact z⟩
    obtain ⟨hD3, k3, s3, st3⟩ := base
    have dv3 : DvL Z.Γ ω2 [] H' acc vs := dv.mono st3 (.inr rfl) fun _ _ h => h
    have dx3 : Dv Z.Γ ω2 [] H' d x := noLam_dv (noLams_get hnl hd) dx
    have A2 : Aft Z.Γ ω1 φ H1 (((M.opt (bindTg tg d (wipeE (ρ.map cleanS) (own.map (·.2)))) >>= fun ρ1 => nx (mt ((Z.blk scope).c []) ρ1 >>= vb) >>= fun t => if t then nx (me ((Z.blk scope).c []) ρ1) >>= fun y => if acc.length < sizeLine then pure (acc ++ [y]) else M.fail else pure acc) >>=
        fun acc' => mloop f (ds.drop (i + 1)) acc' >>= fun ys => pure (D.lst ys)) t2) Qg fun c d H' => W c d σ H' := A2
    rw [M.assoc] at A2
    obtain ⟨ρ1, hb, A3⟩ := aft_opt A2
    rw [M.assoc] at A3
    obtain ⟨b, t3, hm1, A4⟩ := aft_cases A3
    rw [B.eK]
    refine tg_ok hb dx3 (block_rel R1 w2 k3 s3) fun σ1 r1 wq => ⟨?_, ?_⟩
    · rw [wq _ hix]
      exact L2wipe_wipe
    · refine ⟨ω2, H', ρ1, ω2, t2, ⟨r1, ⟨rfl, fun j ρ p e _ => by cases e⟩⟩, ?_⟩
      show Aft Z.Γ ω2 [] H' ((mt ((Z.blk scope).c []) ρ1 >>= vb) t2) _ _
      rw [hm1]
      intro ω3 H3 w3 k4 s4
      have hD4 := k4.obj _ _ hD3 (fun _ z => by cases z) n2
      have n3 := notIn_step n2 hD3 w3
      have w13 := w2.trans k3 w3
      have k13 := k3.trans w2 k4
      have dv4 := dv3.mono (k4.stay s3) w3.mono fun _ _ h => h
      cases b with
      | false =>
        refine (if_neg (by simp)).mpr ?_
        exact ⟨acc, vs, t3, ω3, hD4, dv4, w13, k13, s4, n3, A4⟩
      | true =>
        refine (if_pos rfl).mpr ?_
        have A4 : Aft Z.Γ ω1 φ H1 (((nx (me ((Z.blk scope).c []) ρ1) >>= fun y => if acc.length < sizeLine then pure (acc ++ [y]) else M.fail) >>= fun acc' => mloop f (ds.drop (i + 1)) acc' >>= fun ys => pure (D.lst ys)) t3) Qg fun c d H' => W c d σ H' := A4
        rw [M.assoc] at A4
        obtain ⟨y, t4, hm2, A5⟩ := aft_cases A4
        by_cases hz : acc.length < sizeLine
        · rw [if_pos hz] at A5
          refine ⟨ω2, H', ρ1, ω3, t3, ⟨r1.step w3 k4 s4, ⟨rfl, fun j ρ p e _ => by cases e⟩⟩, ?_⟩
          rw [hm2]
          intro ω4 H4 w4 k5 s5 v hv
          have hD5 := k5.obj _ _ hD4 (fun _ z => by cases z) n3
          have n4 := notIn_step n3 hD4 w4
          refine ⟨vs, hD5, by rw [← dv.length]; exact hz, acc ++ [y], vs ++ [v], t4, ω4, upd_same, ?_, w13.trans k13 w4, keep_own (k13.trans w13 k5) hD, st_own s5 hD5 n4, n4, A5⟩
          have dv5 := dv4.mono (k5.stay s4) w4.mono fun _ _ h => h
          exact (dv5.append (.cons hv .nil)).mono (stay_own hD5) (.inr rfl) fun _ _ h => h
        · rw [if_neg hz] at A5
          exact A5.elim
  · obtain ⟨acc, vs, t2, ω2, hD2, dv, w2, k2, s2, n2, A2⟩ := hp
    rw [List.drop_length] at A2
    have A2 : Aft Z.Γ ω1 φ H1 (.ok (D.lst acc) t2) Qg fun c d H' => W c d σ H' := A2
    exact hQ D0 acc vs t2 ω2 H (Classical.byContradiction fun z => keep_there k1 w1 R1.st z hD) hD2 dv n2 s2 fun o => A2 ω2 _ w2 (keep_own k2 hD) (st_own s2 hD2 n2)
where
  L2wipe_wipe {σ : L2.St} {vs : List Nat} : wipe (wipe σ vs) vs = wipe σ vs := by
    have key : ∀ (vs us : List Nat), (∀ v ∈ vs, v ∈ us) → wipe (wipe σ us) vs = wipe σ us := by
      intro vs us h
      induction vs with
      | nil => rfl
      | cons v vs ih =>
        show (wipe (wipe σ us) vs).set v none = _
        rw [ih fun u hu => h u (List.mem_cons_of_mem _ hu)]
        have hn : ∀ us : List Nat, v ∈ us → (wipe σ us).set v none = wipe σ us := by
          intro us hv
          induction us with
          | nil => cases hv
          | cons u us ih2 =>
            show ((wipe σ us).set u none).set v none = (wipe σ us).set u none
            by_cases e : u = v
            · subst e
              rw [List.set_set]
            · rw [List.set_comm _ _ e, ih2 ((List.mem_cons.mp hv).resolve_left fun z => e z.symm)]
        exact hn us (h v List.mem_cons_self)
    exact key vs vs fun _ h => h
theorem se_comp (hi : SI Z tge iter mi) (ok : blkC Z.N Z.sc scope own = true) (hg : SG (Z.blk scope) tge tg) (ht : STs (Z.blk scope) ifs mt) (he : SE (Z.blk scope) elt me) (hix : ∀ j ∈ tgIx tg, j ∈ own.map (·.2)) (hs : ∀ env x, foldedSetIterable iter env x = pure x) :
    SE Z (.ListComp elt [⟨tge, iter, ifs, 0⟩] scope pos) (eComp (own.map (·.2)) tg mi mt me) :=
  fun X W G φ fs B => pe_imp (pe_fz (pe_lc B.calm B.nd' (hi X W G φ fs B) (by rw [B.eN, B.eS]; exact blkOk_by ok) (fun s H C cl fp => hg _ _ _ _ _ (blk_sx B s H scope cl C fp)) (fun s H C cl fp => ht _ _ _ _ _ (blk_sx B s H scope cl C fp)) (fun s H C cl fp => he _ _ _ _ _ (blk_sx B s H scope cl C fp)) (hs X.env)))
    fun σ H Q h => by
      obtain ⟨ω0, H0, ρ, ω, t, R, A⟩ := h
      exact comp_run (Qg := QV Z.Γ φ Q) (fun D0 acc vs t2 ω2 H2 hD hD2 dv n2 s2 q => .inr ⟨D0, vs, rfl, hD2, fun o => q _ _ (.lst ⟨o, upd_same⟩ (dv.mono (stay_own hD2) (.inr rfl) fun i fr h => by simp at h))⟩) B hix R A
end
end Pv
end

section
set_option Elab.async false
set_option linter.all false
set_option maxRecDepth 100000
set_option maxHeartbeats 4000000
/-! statements -/
namespace Pv
open PySem PySem.Spec PyProof.Rows L2
section
variable {Γ : Gam} {φ : List Fr1} {G : List (Fr1 × L2.St)} {fs : List Env1} {ω0 ω ω1 : Wd} {H0 H H1 : Hp} {σ : L2.St} {ρ : Env1} {t t1 : S0} {D : Ends} {W : WX}
def AftS (Γ : Gam) (φ : List Fr1) (G : List (Fr1 × L2.St)) (fs : List Env1) (ω0 : Wd) (H0 : Hp) (ω : Wd) (H : Hp) (o : Out Fl) (D : Ends) (W : WX) : Prop := match o with
  | .ok (.nx ρ') t' => ∀ σ' ω' H', SR Γ φ G fs ω0 H0 σ' ρ' ω' t' H' → Stay H H' → (ω = none ∨ ω' = ω) → D.nx σ' H'
  | .ok (.bk ρ') t' => ∀ σ' ω' H', SR Γ φ G fs ω0 H0 σ' ρ' ω' t' H' → Stay H H' → (ω = none ∨ ω' = ω) → D.bk σ' H'
  | .ok (.ct ρ') t' => ∀ σ' ω' H', SR Γ φ G fs ω0 H0 σ' ρ' ω' t' H' → Stay H H' → (ω = none ∨ ω' = ω) → D.ct σ' H'
  | .ok (.rt d) t' => ∀ v ω' H', Wx ω0 H0 ω' → Keep ω0 H0 H' → StRel Γ ω' t' H' → Dv Γ ω' φ H' d v → D.rt v H'
  | .exc c x t' => ∀ σ' C dd ω' H', Wx ω0 H0 ω' → Keep ω0 H0 H' → StRel Γ ω' t' H' → ErrV Γ ω' φ H' c x C dd → W (.ref C) dd σ' H'
  | .bad => False
def tS (Γ : Gam) (φ : List Fr1) (G : List (Fr1 × L2.St)) (fs : List Env1) (W : WX) (f : Env1 → M Fl) : TS := fun D σ H => ∃ ω0 H0 ρ ω t, SR Γ φ G fs ω0 H0 σ ρ ω t H ∧ AftS Γ φ G fs ω0 H0 ω H (f ρ t) D W
theorem wd_trans {a b c : Wd} (h : a = none ∨ b = a) (h2 : b = none ∨ c = b) : a = none ∨ c = a := by
  rcases h with h | h
  · exact .inl h
  · rcases h2 with h2 | h2
    · exact .inl (h ▸ h2)
    · exact .inr (h2.trans h)
theorem AftS.step {o : Out Fl} (h : AftS Γ φ G fs ω0 H0 ω H o D W) (k : Stay H H1) (w : ω = none ∨ ω1 = ω) : AftS Γ φ G fs ω0 H0 ω1 H1 o D W := by
  cases o with
  | bad => exact h
  | exc c x t => exact h
  | ok f t =>
    cases f with
    | nx ρ' => exact fun σ' ω' H' r k' w' => h σ' ω' H' r (k.trans k') (wd_trans w w')
    | bk ρ' => exact fun σ' ω' H' r k' w' => h σ' ω' H' r (k.trans k') (wd_trans w w')
    | ct ρ' => exact fun σ' ω' H' r k' w' => h σ' ω' H' r (k.trans k') (wd_trans w w')
    | rt d => exact h
/-- a value first -/
theorem aftS_bind {α : Type} {m : M α} {f : α → M Fl} (R : SR Γ φ G fs ω0 H0 σ ρ ω t H) (A : AftS Γ φ G fs ω0 H0 ω H ((m >>= f) t) D W) :
    Aft Γ ω φ H (m t) (fun a ω' t' H' => SR Γ φ G fs ω0 H0 σ ρ ω' t' H' ∧ Wx ω H ω' ∧ Keep ω H H' ∧ AftS Γ φ G fs ω0 H0 ω' H' (f a t') D W) (fun c d H' => W c d σ H') := by
  cases h : m t with
  | bad =>
    rw [bind_bad h] at A
    exact A
  | exc c x t' =>
    rw [bind_exc h] at A
    exact fun C dd ω' H' w k s e => A σ C dd ω' H' (R.rel.wx.trans R.rel.keep w) (R.rel.keep.trans R.rel.wx k) s e
  | ok a t' =>
    rw [bind_ok h] at A
    exact fun ω' H' w k s => ⟨R.step w k s, w, k, A.step (k.stay R.st) w.mono⟩
theorem tV_bindS {g : Env1 → M Pv.D} {f : Pv.D → M Fl} {K : VK} (R : SR Γ φ G fs ω0 H0 σ ρ ω t H) (A : AftS Γ φ G fs ω0 H0 ω H ((g ρ >>= f) t) D W)
    (k : ∀ d v ω1 t1 H1, SR Γ φ G fs ω0 H0 σ ρ ω1 t1 H1 → Wx ω H ω1 → Keep ω H H1 → Dv Γ ω1 φ H1 d v → AftS Γ φ G fs ω0 H0 ω1 H1 (f d t1) D W → K v H1) : tV Γ φ G fs W g σ H K :=
  ⟨ω0, H0, ρ, ω, t, R, (aftS_bind R A).imp (fun d ω1 t1 H1 _ _ _ ⟨r, w, kp, a⟩ v hv => k d v ω1 t1 H1 r w kp hv a) fun _ _ _ e => e⟩
theorem tBl_bindS {g : Env1 → M Bool} {f : Bool → M Fl} {K : Bool → Hp → Prop} (R : SR Γ φ G fs ω0 H0 σ ρ ω t H) (A : AftS Γ φ G fs ω0 H0 ω H ((g ρ >>= f) t) D W)
    (k : ∀ d ω1 t1 H1, SR Γ φ G fs ω0 H0 σ ρ ω1 t1 H1 → Wx ω H ω1 → Keep ω H H1 → AftS Γ φ G fs ω0 H0 ω1 H1 (f d t1) D W → K d H1) : tBl Γ φ G fs W g σ H K :=
  ⟨ω0, H0, ρ, ω, t, R, (aftS_bind R A).imp (fun d ω1 t1 H1 _ _ _ ⟨r, w, kp, a⟩ => k d ω1 t1 H1 r w kp a) fun _ _ _ e => e⟩
theorem SR.set {i : Nat} {d : Pv.D} {v : V} (R : SR Γ φ G fs ω0 H0 σ ρ ω t H) (hv : Dv Γ ω φ H d v) : SR Γ φ G fs ω0 H0 (σ.set i (some v)) (ρ.set i (.pl d)) ω t H := ⟨R.rel.set hv, R.envs⟩
theorem aftS_nx {ρ' : Env1} {σ' : L2.St} (A : AftS Γ φ G fs ω0 H0 ω H (.ok (.nx ρ') t) D W) (R : SR Γ φ G fs ω0 H0 σ' ρ' ω t H) : D.nx σ' H := A σ' ω H R (.refl _) (.inr rfl)
theorem aftS_rt {d : Pv.D} {v : V} (A : AftS Γ φ G fs ω0 H0 ω H (.ok (.rt d) t) D W) (R : SR Γ φ G fs ω0 H0 σ ρ ω t H) (hv : Dv Γ ω φ H d v) : D.rt v H := A v ω H R.rel.wx R.rel.keep R.st hv
/-- a list of one's own becomes another, or is locked -/
theorem Rel.ownUpd {i : Nat} {xs : List Pv.D} {a : Addr} {vs : List V} {s' : Slot} {o' : HO} (r : Rel Γ ω φ ω0 H0 ρ t σ H) (e : ρ[i]? = some (.own xs)) (e2 : σ[i]? = some (some (.ref a))) (hH : H a = some (.lst vs))
    (h : (∃ xs' vs', s' = .own xs' ∧ o' = .lst vs' ∧ DvL Γ ω φ H xs' vs') ∨ (∃ o, s' = .pl (.lst xs) ∧ o' = .frz o (.lst vs) ∧ DvL Γ ω φ H xs vs)) : Rel Γ ω φ ω0 H0 (ρ.set i s') t σ (upd H a o') := by
  obtain ⟨a', vs', f1, f2, f3, f4, f5⟩ := r.own i xs e
  rw [e2] at f1
  cases f1
  have st := stay_own (o := o') hH
  refine ⟨st_own r.st hH f5, by rw [List.length_set]; exact r.len, fun j d q => ?_, fun j ys q => ?_, fun j l ys zs b q1 q2 q3 q4 => ?_, r.wx, keep_own r.keep f4⟩
  · rcases get_set_some q with ⟨rfl, hl, q⟩ | ⟨hn, q⟩
    · rcases h with ⟨xs', vs', rfl, _, _⟩ | ⟨o, rfl, rfl, h3⟩
      · cases q
      · cases q
        exact ⟨_, e2, .lst ⟨o, upd_same⟩ (h3.mono st (.inr rfl) fun _ _ h => h)⟩
    · obtain ⟨v, hv, dv⟩ := r.slot j d q
      exact ⟨v, hv, dv.mono st (.inr rfl) fun _ _ h => h⟩
  · rcases get_set_some q with ⟨rfl, hl, q⟩ | ⟨hn, q⟩
    · rcases h with ⟨xs', vs', rfl, rfl, h3⟩ | ⟨o, rfl, rfl, h3⟩
      · cases q
        exact ⟨a, vs', e2, upd_same, h3.mono st (.inr rfl) fun _ _ h => h, f4, f5⟩
      · cases q
    · obtain ⟨b, us, g1, g2, g3, g4, g5⟩ := r.own j ys q
      refine ⟨b, us, g1, ?_, g3.mono st (.inr rfl) fun _ _ h => h, g4, g5⟩
      rw [upd_ne (fun z => by
        subst z
        exact hn (r.dist i j xs ys _ e q e2 g1))]
      exact g2
  · have old : ∀ {j : Nat} {ys : List Pv.D}, (ρ.set i s')[j]? = some (.own ys) → ∃ zs, ρ[j]? = some (.own zs) := fun {j ys} q => by
      rcases get_set_some q with ⟨rfl, _, _⟩ | ⟨_, q⟩
      · exact ⟨xs, e⟩
      · exact ⟨ys, q⟩
    obtain ⟨y1, p1⟩ := old q1
    obtain ⟨y2, p2⟩ := old q2
    exact r.dist j l y1 y2 b p1 p2 q3 q4
/-- a new list of one's own -/
theorem Rel.setOwn {i : Nat} {xs : List Pv.D} {a : Addr} {vs : List V} (r : Rel Γ ω φ ω0 H0 ρ t σ H) (hH : H a = some (.lst vs)) (hv : DvL Γ ω φ H xs vs) (h0 : H0 a = none) (hn : ¬ inW ω a) (hd : ∀ (j : Nat) (ys : List Pv.D), ρ[j]? = some (Slot.own ys) → σ[j]? ≠ some (some (V.ref a))) :
    Rel Γ ω φ ω0 H0 (ρ.set i (.own xs)) t (σ.set i (some (.ref a))) H := by
  refine ⟨r.st, by rw [List.length_set, List.length_set]; exact r.len, fun j d' e => ?_, fun j ys e => ?_, fun j l ys zs b e1 e2 e3 e4 => ?_, r.wx, r.keep⟩
  · rcases get_set_some e with ⟨rfl, hl, q⟩ | ⟨hn, q⟩
    · cases q
    · rw [List.getElem?_set_ne hn]
      exact r.slot j d' q
  · rcases get_set_some e with ⟨rfl, hl, q⟩ | ⟨hn', q⟩
    · cases q
      exact ⟨a, vs, List.getElem?_set_self (by rw [← r.len]; exact hl), hH, hv, h0, hn⟩
    · rw [List.getElem?_set_ne hn']
      exact r.own j ys q
  · have at_ : ∀ {j : Nat} {ys : List Pv.D}, (ρ.set i (Slot.own xs))[j]? = some (Slot.own ys) → (σ.set i (some (V.ref a)))[j]? = some (some (V.ref b)) → (i = j ∧ b = a) ∨ (i ≠ j ∧ ρ[j]? = some (Slot.own ys) ∧ σ[j]? = some (some (V.ref b))) := fun {j ys} q q2 => by
      rcases get_set_some q with ⟨rfl, hl, _⟩ | ⟨hn', q⟩
      · rw [List.getElem?_set_self (by rw [← r.len]; exact hl)] at q2
        cases q2
        exact .inl ⟨rfl, rfl⟩
      · rw [List.getElem?_set_ne hn'] at q2
        exact .inr ⟨hn', q, q2⟩
    rcases at_ e1 e3 with ⟨rfl, rfl⟩ | ⟨n1, p1, p2⟩
    · rcases at_ e2 e4 with ⟨rfl, _⟩ | ⟨n2, p3, p4⟩
      · rfl
      · exact absurd p4 (hd l zs p3)
    · rcases at_ e2 e4 with ⟨rfl, rfl⟩ | ⟨n2, p3, p4⟩
      · exact absurd p2 (hd j ys p1)
      · exact r.dist j l ys zs b p1 p3 p2 p4
end
/-- the scene of a body -/
structure SXs (Z : Sn) (X : Cx) (W : WX) (G : List (Fr1 × L2.St)) (φ : List Fr1) (fs : List Env1) : Prop extends SX Z X W G φ fs where
  po : PassesOwn (model X.prog X.w) X.A X.env X.xe
  stk : X.stack = X.env :: X.outer
  frm : X.env.frame = some X.env.locals
  ex : X.ex = []
def SS (Z : Sn) (st : Stmt) (m : CS) : Prop := ∀ X W G φ fs, SXs Z X W G φ fs → PS X st (tS Z.Γ φ G fs W (m (Z.c fs)))
def SSs (Z : Sn) (st : List Stmt) (m : CS) : Prop := ∀ X W G φ fs, SXs Z X W G φ fs → PSs X st (tS Z.Γ φ G fs W (m (Z.c fs)))
section
variable {Z : Sn} {a b d e : Expr} {ma mb md m : CE} {pos p p2 : Pos} {es : List Expr} {ml mk : CL} {x y : Str} {st : Stmt} {rest sa sb : List Stmt} {ms mr : CS} {i j k : Nat}
theorem pss_imp {X : Cx} {st : List Stmt} {t t' : TS} (h : PSs X st t) (k : ∀ D σ H, t' D σ H → t D σ H) : PSs X st t' := ⟨fun pins s σ H D I q => h.run pins s σ H D I (k _ _ _ q)⟩
theorem sss_nil : SSs Z [] sPass := fun X W G φ fs B => pss_imp pss_nil fun D σ H h => by
  obtain ⟨ω0, H0, ρ, ω, t, R, A⟩ := h
  exact aftS_nx (ρ' := ρ) A R
theorem seq_run {Γ : Gam} {φ : List Fr1} {G : List (Fr1 × L2.St)} {fs : List Env1} {W : WX} {D : Ends} {σ : L2.St} {H : Hp} {c : Ctx} (h : tS Γ φ G fs W (sSeq ms mr c) D σ H) : tS Γ φ G fs W (ms c) { D with nx := tS Γ φ G fs W (mr c) D } σ H := by
  obtain ⟨ω0, H0, ρ, ω, t, R, A⟩ := h
  refine ⟨ω0, H0, ρ, ω, t, R, ?_⟩
  unfold sSeq at A
  cases h : ms c ρ t with
  | bad =>
    rw [bind_bad h] at A
    exact A
  | exc q x t' =>
    rw [bind_exc h] at A
    exact A
  | ok f t' =>
    rw [bind_ok h] at A
    cases f with
    | nx ρ' => exact fun σ' ω' H' r k w => ⟨ω0, H0, ρ', ω', t', r, AftS.step A k w⟩
    | bk ρ' => exact A
    | ct ρ' => exact A
    | rt d => exact A
theorem sss_one (h : SS Z st ms) : SSs Z [st] ms := fun X W G φ fs B => pss_one (h X W G φ fs B)
theorem sss_cons (h : SS Z st ms) (hr : SSs Z rest mr) : SSs Z (st :: rest) (sSeq ms mr) := fun X W G φ fs B => pss_imp (pss_cons (h X W G φ fs B) (hr X W G φ fs B)) fun D σ H q => seq_run q
/-- a list of one's own is locked from here on: nothing happens in the text -/
theorem sss_freeze (hr : SSs Z rest mr) : SSs Z rest (sSeq (sFreeze i) mr) := fun X W G φ fs B => by
  refine ⟨fun pins s σ H D I h => ?_⟩
  obtain ⟨ω0, H0, ρ, ω, t, R, A⟩ := h
  unfold sSeq sFreeze at A
  cases e : ρ[i]? with
  | none =>
    rw [e] at A
    exact A.elim
  | some sl =>
    rw [e] at A
    cases sl with
    | own xs =>
      obtain ⟨a, vs, h1, h2, h3, h4, h5⟩ := R.rel.own i xs e
      obtain ⟨o, I2⟩ := inv_freeze I h2
      refine (hr X W G φ fs B).run pins s σ _ D I2 ⟨ω0, H0, ρ.set i (.pl (.lst xs)), ω, t, ⟨R.rel.ownUpd e h1 h2 (.inr ⟨o, rfl, rfl, h3⟩), R.envs.mono (stay_own h2) (.inr rfl)⟩, ?_⟩
      exact AftS.step (o := mr (Z.c fs) (ρ.set i (.pl (.lst xs))) t) A (stay_own h2) (.inr rfl)
    | _ => exact A.elim
theorem ss_expr (h : SE Z e m) (hs : ∀ env, swapsWith e none pos.line env = pure false) : SS Z (.Expr e pos) (sExpr m) := fun X W G φ fs B => ps_imp (ps_expr (h X W G φ fs B.toSX) (hs X.env)) fun D σ H q => by
  obtain ⟨ω0, H0, ρ, ω, t, R, A⟩ := q
  exact tV_bindS R A fun d v ω1 t1 H1 R1 w1 k1 hv A1 => aftS_nx (ρ' := ρ) A1 R1
theorem ss_doc {s : Str} {j : Nat} : SS Z (.Expr (.Constant (.str s) j pos) p) sPass := fun X W G φ fs B => ps_imp ps_doc fun D σ H h => by
  obtain ⟨ω0, H0, ρ, ω, t, R, A⟩ := h
  exact aftS_nx (ρ' := ρ) A R
theorem ss_set (n : Nw Z i x) (h : SE Z e m) (hs : ∀ env, swapsWith e (some (.Name x p)) pos.line env = pure false) : SS Z (.Assign [.Name x p] e pos) (sAsg i m) := fun X W G φ fs B =>
  ps_imp (ps_set B.nd' (by rw [B.eN]; exact n.at_) (n.loc' B.toSX) (h X W G φ fs B.toSX) (hs X.env) (n.fn' B.toSX)) fun D σ H q => by
    obtain ⟨ω0, H0, ρ, ω, t, R, A⟩ := q
    exact tV_bindS R A fun d v ω1 t1 H1 R1 w1 k1 hv A1 => aftS_nx (ρ' := ρ.set i (.pl d)) A1 (R1.set hv)
theorem ss_ret (h : SE Z e m) : SS Z (.Return (some e) pos) (sRet m) := fun X W G φ fs B => ps_imp (ps_ret (h X W G φ fs B.toSX)) fun D σ H q => by
  obtain ⟨ω0, H0, ρ, ω, t, R, A⟩ := q
  exact tV_bindS R A fun d v ω1 t1 H1 R1 w1 k1 hv A1 => aftS_rt A1 R1 hv
theorem ss_retN : SS Z (.Return none pos) (sRet (eK .non)) := fun X W G φ fs B => ps_imp ps_retN fun D σ H q => by
  obtain ⟨ω0, H0, ρ, ω, t, R, A⟩ := q
  exact aftS_rt (d := .non) A R .non
theorem ss_brk : SS Z (.Break pos) sBrk := fun X W G φ fs B => ps_imp ps_break fun D σ H q => by
  obtain ⟨ω0, H0, ρ, ω, t, R, A⟩ := q
  exact (show AftS Z.Γ φ G fs ω0 H0 ω H (.ok (.bk ρ) t) D W from A) σ ω H R (.refl _) (.inr rfl)
theorem ss_cont : SS Z (.Continue pos) sCont := fun X W G φ fs B => ps_imp ps_continue fun D σ H q => by
  obtain ⟨ω0, H0, ρ, ω, t, R, A⟩ := q
  exact (show AftS Z.Γ φ G fs ω0 H0 ω H (.ok (.ct ρ) t) D W from A) σ ω H R (.refl _) (.inr rfl)
theorem ss_pass : SS Z (.Pass pos) sPass := fun X W G φ fs B => ps_imp ps_pass fun D σ H q => by
  obtain ⟨ω0, H0, ρ, ω, t, R, A⟩ := q
  exact aftS_nx (ρ' := ρ) A R
theorem vbs (f : Bool → M Fl) : (fun x => vb x >>= f) = fun x => (vb x >>= f) := rfl
theorem ss_if {c : Expr} {mc : CE} (hc : ST Z c mc) (ha : SSs Z sa ms) (hb : SSs Z sb mr) : SS Z (.If c sa sb pos) (sIf mc ms mr) := fun X W G φ fs B =>
  ps_imp (ps_if (hc X W G φ fs B.toSX) (ha X W G φ fs B) (hb X W G φ fs B)) fun D σ H q => by
    obtain ⟨ω0, H0, ρ, ω, t, R, A⟩ := q
    have A2 : AftS Z.Γ φ G fs ω0 H0 ω H ((mc (Z.c fs) ρ >>= vb >>= fun t => if t then ms (Z.c fs) ρ else mr (Z.c fs) ρ) t) D W := by
      rw [M.assoc]
      exact A
    refine tBl_bindS (g := fun ρ => mc (Z.c fs) ρ >>= vb) R A2 fun k ω1 t1 H1 R1 w1 k1 A1 => ?_
    cases k with
    | true => exact (if_pos rfl).mpr ⟨ω0, H0, ρ, ω1, t1, R1, A1⟩
    | false => exact (if_neg (by simp)).mpr ⟨ω0, H0, ρ, ω1, t1, R1, A1⟩
end
end Pv
end

section
set_option Elab.async false
set_option linter.all false
set_option maxRecDepth 100000
set_option maxHeartbeats 4000000
/-! loops, lists of one's own, parallel assignment -/
namespace Pv
open PySem PySem.Spec PyProof.Rows L2
section
variable {Z : Sn} {a b d e tge it : Expr} {ma mb md m : CE} {pos p p2 : Pos} {es : List Expr} {ml mk : CL} {x y : Str} {st : Stmt} {rest sa sb : List Stmt} {ms mr : CS} {i j k : Nat}
theorem ss_while {c : Expr} {mc : CE} (hc : ST Z c mc) (hb : SSs Z sa ms) : SS Z (.While c sa [] pos) (sWhile mc ms) := fun X W G φ fs B =>
  ps_imp (ps_while B.po (hc X W G φ fs B.toSX) (hb X W G φ fs B)) fun D σ H q => by
    obtain ⟨ω0, H0, ρ, ω, t, R, A⟩ := q
    refine ⟨fun n σ H => ∃ ρ ω t, SR Z.Γ φ G fs ω0 H0 σ ρ ω t H ∧ AftS Z.Γ φ G fs ω0 H0 ω H (wloop (fun ρ' => mc (Z.c fs) ρ' >>= vb) (fun ρ' => ms (Z.c fs) ρ') n ρ t) D W, ⟨(Z.c fs).n, ρ, ω, t, R, A⟩, fun n σ H hw => ?_⟩
    obtain ⟨ρ, ω, t, R, A⟩ := hw
    cases n with
    | zero => exact A.elim
    | succ n =>
      refine tBl_bindS (g := fun ρ => mc (Z.c fs) ρ >>= vb) R A fun k ω1 t1 H1 R1 w1 k1 A1 => ?_
      cases k with
      | false => exact (if_neg (by simp)).mpr (aftS_nx (ρ' := ρ) A1 R1)
      | true =>
        refine (if_pos rfl).mpr ?_
        refine ⟨fun σ' H' => ∃ ρ ω t, SR Z.Γ φ G fs ω0 H0 σ' ρ ω t H' ∧ AftS Z.Γ φ G fs ω0 H0 ω H' (wloop (fun ρ' => mc (Z.c fs) ρ' >>= vb) (fun ρ' => ms (Z.c fs) ρ') n ρ t) D W, fun σ' H' h => ⟨n, Nat.lt_succ_self n, h⟩, ω0, H0, ρ, ω1, t1, R1, ?_⟩
        have A1 : AftS Z.Γ φ G fs ω0 H0 ω1 H1 ((ms (Z.c fs) ρ >>= fun r => match r with
          | .nx ρ' => wloop (fun ρ' => mc (Z.c fs) ρ' >>= vb) (fun ρ' => ms (Z.c fs) ρ') n ρ'
          | .ct ρ' => wloop (fun ρ' => mc (Z.c fs) ρ' >>= vb) (fun ρ' => ms (Z.c fs) ρ') n ρ'
          | .bk ρ' => pure (.nx ρ')
          | .rt d => pure (.rt d)) t1) D W := A1
        cases h : ms (Z.c fs) ρ t1 with
        | bad =>
          rw [bind_bad h] at A1
          exact A1
        | exc q x t' =>
          rw [bind_exc h] at A1
          exact A1
        | ok f t' =>
          rw [bind_ok h] at A1
          cases f with
          | nx ρ' => exact fun σ' ω' H' r k w => ⟨ρ', ω', t', r, AftS.step A1 k w⟩
          | ct ρ' => exact fun σ' ω' H' r k w => ⟨ρ', ω', t', r, AftS.step A1 k w⟩
          | bk ρ' => exact fun σ' ω' H' r k w => A1 σ' ω' H' r k w
          | rt d => exact A1
theorem ss_for {tg : Tg} {mi : CL} (hsf : ∀ env x, foldedSetIterable it env x = pure x) (hi : SI Z tge it mi) (hg : SG Z tge tg) (hb : SSs Z sa ms) : SS Z (.For tge it sa [] pos) (sFor tg mi ms) := fun X W G φ fs B =>
  ps_imp (ps_for B.po B.calm (hi X W G φ fs B.toSX) (hg X W G φ fs B.toSX) (hb X W G φ fs B) (hsf X.env)) fun D σ H q => by
    obtain ⟨ω0, H0, ρ, ω, t, R, A⟩ := q
    refine ⟨ω0, H0, ρ, ω, t, R, (aftS_bind R A).imp (fun ds ω1 t1 H1 _ _ _ h J hJ => ?_) fun _ _ _ e => e⟩
    obtain ⟨R1, w1, k1, A1⟩ := h
    obtain ⟨Gd, Y, wk, hGd, hY⟩ := hJ
    refine for_it wk (fun i σ H => ∃ ρ ω t, SR Z.Γ φ G fs ω0 H0 σ ρ ω t H ∧ Stay H1 H ∧ (ω1 = none ∨ ω = ω1) ∧ AftS Z.Γ φ G fs ω0 H0 ω H (floop tg (fun ρ' => ms (Z.c fs) ρ') (ds.drop i) ρ t) D W) ⟨ρ, ω1, t1, R1, .refl _, .inr rfl, A1⟩
      (fun i σ H _ h => ?_) (fun i x σ H H' hi hp hy => ?_) fun σ H hp => ?_
    · obtain ⟨_, _, _, _, st, _⟩ := h
      exact hGd H st
    · obtain ⟨ρ, ω2, t2, R2, st2, w2, A2⟩ := hp
      obtain ⟨d, hd, hH, dx⟩ := hY i ω2 H x H' st2 w2 hi hy
      have hdr : ds.drop i = d :: ds.drop (i + 1) := by
        have q := List.drop_eq_getElem_cons hi
        rw [List.getElem?_eq_getElem hi] at hd
        cases hd
        exact q
      rw [hdr] at A2
      have A2 : AftS Z.Γ φ G fs ω0 H0 ω2 H ((M.opt (bindTg tg d ρ) >>= fun ρ1 => ms (Z.c fs) ρ1 >>= fun q => match q with
        | .nx ρ' => floop tg (fun ρ' => ms (Z.c fs) ρ') (ds.drop (i + 1)) ρ'
        | .ct ρ' => floop tg (fun ρ' => ms (Z.c fs) ρ') (ds.drop (i + 1)) ρ'
        | .bk ρ' => pure (.nx ρ')
        | .rt d => pure (.rt d)) t2) D W := A2
      cases hb : bindTg tg d ρ with
      | none =>
        rw [hb] at A2
        exact A2.elim
      | some ρ1 =>
        rw [hb] at A2
        have A3 : AftS Z.Γ φ G fs ω0 H0 ω2 H ((ms (Z.c fs) ρ1 >>= fun q => match q with
          | .nx ρ' => floop tg (fun ρ' => ms (Z.c fs) ρ') (ds.drop (i + 1)) ρ'
          | .ct ρ' => floop tg (fun ρ' => ms (Z.c fs) ρ') (ds.drop (i + 1)) ρ'
          | .bk ρ' => pure (.nx ρ')
          | .rt d => pure (.rt d)) t2) D W := A2
        have base : SR Z.Γ φ G fs ω0 H0 σ ρ ω2 t2 H' ∧ Stay H H' := by
          rcases hH with rfl | ⟨T, o, hT, rfl⟩
          · exact ⟨R2, .refl _⟩
          · exact ⟨R2.step (.refl _ _) (keep_new hT) (R2.st.new hT), stay_new hT⟩
        obtain ⟨R3, st3⟩ := base
        rw [B.eK]
        refine tg_ok hb dx R3.rel fun σ1 r1 _ => ⟨ω0, H0, ρ1, ω2, t2, ⟨r1, R3.envs⟩, ?_⟩
        have A4 := A3.step st3 (.inr rfl)
        have stt := st2.trans st3
        cases h : ms (Z.c fs) ρ1 t2 with
        | bad =>
          rw [bind_bad h] at A4
          exact A4
        | exc q x t' =>
          rw [bind_exc h] at A4
          exact A4
        | ok f t' =>
          rw [bind_ok h] at A4
          cases f with
          | nx ρ' => exact fun σ' ω' H' r k w => ⟨ρ', ω', t', r, stt.trans k, wd_trans w2 w, AftS.step A4 k w⟩
          | ct ρ' => exact fun σ' ω' H' r k w => ⟨ρ', ω', t', r, stt.trans k, wd_trans w2 w, AftS.step A4 k w⟩
          | bk ρ' => exact fun σ' ω' H' r k w => A4 σ' ω' H' r k w
          | rt d => exact A4
    · obtain ⟨ρ, ω2, t2, R2, st2, w2, A2⟩ := hp
      rw [List.drop_length] at A2
      exact aftS_nx (ρ' := ρ) A2 R2
/-! append -/
theorem ss_app {apos : Pos} (n : Nm Z i x) (h : SE Z e m) (hb : ∀ env, attributeBase (.Name x p) "append" env (eval (.Name x p) env) = eval (.Name x p) env)
    (hfew : ∀ env, ((backTo pos (starEach [e] env)).all (fun x => !x.1) && (backToKw pos (keywordEach [] env)).all (fun x => x.1.isSome) && decide ([e].length + ([] : List Keyword).length + (if ([] : List Keyword).isEmpty then 0 else 1) < 30)) = true)
    (hl : (apos.endLine == pos.line) = true) (hs : ∀ env, starEach [e] env = (false, eval e env) :: starEach [] env) (hpl : ∀ env, (backTo pos (starEach [] env)).any (·.1) = false) (hs1 : ∀ env, starEach [e] env = [(false, eval e env)]) :
    SS Z (.Expr (.Call (.Attribute (.Name x p) "append" apos) [e] [] pos) p2) (sApp i m) := fun X W G φ fs B =>
  ps_imp (ps_expr (pe_bm F.plainAttrs_list F.slot_list_append F.type_list_append (mt_append (X := X)) (pe_var (i := i) (by rw [B.eN]; exact n.at_) (by rw [B.eS]; exact n.vis) n.d1 n.d2) (pa_cons (h X W G φ fs B.toSX) pa_nil (hs1 X.env)) (hb X.env) (hfew X.env) hl (hs X.env) (hpl X.env)) rfl) fun D σ H q => by
    obtain ⟨ω0, H0, ρ, ω, t, R, A⟩ := q
    unfold sApp at A
    cases e : ρ[i]? with
    | none =>
      rw [e] at A
      exact A.elim
    | some sl =>
      rw [e] at A
      cases sl with
      | own xs =>
        obtain ⟨a, vs, h1, h2, h3, h4, h5⟩ := R.rel.own i xs e
        refine ⟨_, h1, .inl ⟨rfl, vs, .inl (.of h2)⟩, ?_⟩
        refine tV_bindS R A fun d v ω1 t1 H1 R1 w1 k1 hv A1 => ?_
        obtain ⟨a', vs', g1, g2, g3, g4, g5⟩ := R1.rel.own i xs e
        rw [h1] at g1
        cases g1
        by_cases hz : xs.length < sizeLine
        · rw [if_pos hz] at A1
          refine ⟨a, vs', v, rfl, rfl, g2, by rw [← g3.length]; exact hz, ?_⟩
          exact A1 σ ω1 _ ⟨R1.rel.ownUpd e h1 g2 (.inl ⟨xs ++ [d], vs' ++ [v], rfl, rfl, g3.append (.cons hv .nil)⟩), R1.envs.mono (stay_own g2) (.inr rfl)⟩ (stay_own g2) (.inr rfl)
        · rw [if_neg hz] at A1
          exact A1.elim
      | _ => exact A.elim
/-! x op= e -/
theorem ip_of {X : Cx} {op : Operator} {r : R2} (h : OpR X (inplaceOp op) r) : PIp X op r := fun pins s σ H x y v u Q I r1 r2 q => h pins s σ H x y v u Q I r1 r2 q
def rAug : Bop → R2
  | .add => fun x y H Q => (∃ i j, x = .int i ∧ y = .int j ∧ Q (.int (i + j)) H) ∨ (∃ i j, x = .str i ∧ y = .str j ∧ i.length + j.length ≤ sizeLine ∧ Q (.str (i ++ j)) H)
  | .sub => fun x y H Q => ∃ i j, x = .int i ∧ y = .int j ∧ Q (.int (i - j)) H
  | .mul => rI CMul fun i j => .int (i * j)
  | _ => fun _ _ _ _ => False
theorem iop_add' {X : Cx} : OpR X (inplaceOp .Add) (fun x y H Q => ∃ i j, x = .int i ∧ y = .int j ∧ Q (.int (i + j)) H) := fun pins s σ H x y v u Q I r1 r2 ⟨i, j, e1, e2, q⟩ => iop_add pins s σ H x y v u Q I r1 r2 ⟨i, j, e1, e2, q⟩
theorem iop_sub' {X : Cx} : OpR X (inplaceOp .Sub) (fun x y H Q => ∃ i j, x = .int i ∧ y = .int j ∧ Q (.int (i - j)) H) := fun pins s σ H x y v u Q I r1 r2 ⟨i, j, e1, e2, q⟩ => iop_sub pins s σ H x y v u Q I r1 r2 ⟨i, j, e1, e2, q⟩
theorem ipr_aug {X : Cx} (op : Bop) : PIp X (opB op) (rAug op) := by
  cases op with
  | add => exact ip_of (opr_or iop_add' iop_add_str)
  | sub => exact ip_of iop_sub'
  | mul => exact ip_of iop_mul
  | mod => exact fun _ _ _ _ _ _ _ _ _ _ _ _ z => z.elim
  | fdiv => exact fun _ _ _ _ _ _ _ _ _ _ _ _ z => z.elim
  | pow => exact fun _ _ _ _ _ _ _ _ _ _ _ _ z => z.elim
theorem aug_ok {Γ : Gam} {φ : List Fr1} {ω : Wd} {H : Hp} {Q : VK} {op : Bop} {x y z : Pv.D} {v u : V} (h : vaug op x y = some z) (hx : Dv Γ ω φ H x v) (hy : Dv Γ ω φ H y u) (q : ∀ w, Dv Γ ω φ H z w → Q w H) : rAug op v u H Q := by
  cases op with
  | add =>
    cases x <;> (try cases h) <;> cases y <;> (try cases h)
    · cases hx
      cases hy
      exact .inl ⟨_, _, rfl, rfl, q _ (.int _)⟩
    · rename_i a b
      have h : (if a.length + b.length ≤ sizeLine then some (Pv.D.str (a ++ b)) else none) = some z := h
      cases hx
      cases hy
      split at h
      · cases h
        exact .inr ⟨_, _, rfl, rfl, by assumption, q _ (.str _)⟩
      · cases h
  | sub =>
    cases x <;> (try cases h) <;> cases y <;> (try cases h)
    cases hx
    cases hy
    exact ⟨_, _, rfl, rfl, q _ (.int _)⟩
  | mul =>
    cases x <;> (try cases h) <;> cases y <;> (try cases h)
    rename_i i j
    have h : (if isInt64 i || isInt64 j then some (Pv.D.int (i * j)) else none) = some z := h
    cases hx
    cases hy
    split at h
    · rename_i hz
      cases h
      unfold isInt64 at hz
      simp only [Bool.or_eq_true, Bool.and_eq_true, decide_eq_true_eq] at hz
      exact ⟨i, j, rfl, rfl, hz, q _ (.int _)⟩
    · cases h
  | mod => cases x <;> (try cases h) <;> cases y <;> (try cases h)
  | fdiv => cases x <;> (try cases h) <;> cases y <;> (try cases h)
  | pow => cases x <;> (try cases h) <;> cases y <;> (try cases h)
theorem ss_aug {op : Bop} (n : Nw Z i x) (h : SE Z e m) : SS Z (.AugAssign (.Name x p) (opB op) e pos) (sAug i op m) := fun X W G φ fs B =>
  ps_imp (ps_aug (te := _) B.nd' (by rw [B.eN]; exact n.at_) (n.loc' B.toSX) (h X W G φ fs B.toSX) (ipr_aug op) (n.fn' B.toSX)) fun D σ H q => by
    obtain ⟨ω0, H0, ρ, ω, t, R, A⟩ := q
    unfold sAug at A
    cases e : ρ[i]? with
    | none =>
      rw [e] at A
      exact A.elim
    | some sl =>
      rw [e] at A
      cases sl with
      | pl d =>
        obtain ⟨v, hv, dv⟩ := R.rel.slot i d e
        refine ⟨v, hv, tV_bindS R A fun d2 v2 ω1 t1 H1 R1 w1 k1 hv2 A1 => ?_⟩
        cases hz : vaug op d d2 with
        | none =>
          rw [hz] at A1
          exact A1.elim
        | some z =>
          rw [hz] at A1
          exact aug_ok hz (dv.step R w1 k1) hv2 fun w hw => aftS_nx (ρ' := ρ.set i (.pl z)) A1 (R1.set hw)
      | _ => exact A.elim
/-! a, b = e -/
theorem ss_unpack {elts : List Expr} {kt : Nat} {tp : Pos} {is : List Nat} (hg : SG Z (.Tuple elts kt tp) (.names is)) (h : SE Z e m) (hs : ∀ env, swapsWithSole [.Tuple elts kt tp] e pos.line env = pure false) (hw : ∀ env, env.scope = Z.sc → swappedStores [.Tuple elts kt tp] e env = pure none)
    (h1 : ∀ env, (assignEach [.Tuple elts kt tp] env).map (·.2) = [assign (.Tuple elts kt tp) env]) : SS Z (.Assign [.Tuple elts kt tp] e pos) (sUnpack is m) := fun X W G φ fs B =>
  ps_imp (ps_asg (h X W G φ fs B.toSX) (hg X W G φ fs B.toSX) (hs X.env) (hw X.env B.eS) (h1 X.env)) fun D σ H q => by
    obtain ⟨ω0, H0, ρ, ω, t, R, A⟩ := q
    refine tV_bindS R A fun d v ω1 t1 H1 R1 w1 k1 hv A1 => ?_
    cases d <;> try exact A1.elim
    rename_i xs
    have A1 : AftS Z.Γ φ G fs ω0 H0 ω1 H1 ((M.opt (setAll ρ is xs) >>= fun ρ' => (pure (.nx ρ') : M Fl)) t1) D W := A1
    cases hz : setAll ρ is xs with
    | none =>
      rw [hz] at A1
      exact A1.elim
    | some ρ1 =>
      rw [hz] at A1
      rw [B.eK]
      exact tg_ok (tg := .names is) (d := .tup xs) hz hv R1.rel fun σ1 r1 _ => aftS_nx (ρ' := ρ1) A1 ⟨r1, R1.envs⟩
/-! name = [.. for ..] on one line -/
theorem ps_fzN {X : Cx} {st : Stmt} {t : TS} (h : PS X st t) : PS X st (fun D σ H => t { D with nx := fun σ H => D.nx σ H ∨ ∃ a vs, H a = some (.lst vs) ∧ ∀ o, D.nx σ (upd H a (.frz o (.lst vs))) } σ H) := by
  refine ⟨fun pins s σ H D I q => wpAny_mono (h.run pins s σ H _ I q) (fun f s1 hq => ?_) fun _ _ e => e⟩
  cases f with
  | next =>
    obtain ⟨σ1, H1, I1, q1 | ⟨a, vs, ha, q1⟩⟩ := hq
    · exact ⟨σ1, H1, I1, q1⟩
    · obtain ⟨o, I2⟩ := inv_freeze I1 ha
      exact ⟨σ1, _, I2, q1 o⟩
  | ret u => exact hq
  | brk => exact hq
  | cont => exact hq
theorem ss_setLc {elt : Expr} {ifs : List Expr} {scope : Scope} {own : List (Str × Nat)} {tg : Tg} {mi : CL} {mt me : CE} (n : Nw Z i x) (hk : Z.sc.kind = .function) (hl : Z.sc.names.lookup x = some .local) (hli : (p2.line == pos.line) = true) (ha : (scope.names.any fun (n, k) => n == x && (k == .local || k == .cell)) = false)
    (hi : SI Z tge it mi) (ok : blkC Z.N Z.sc scope own = true) (hg : SG (Z.blk scope) tge tg) (ht : STs (Z.blk scope) ifs mt) (he : SE (Z.blk scope) elt me) (hix : ∀ j ∈ tgIx tg, j ∈ own.map (·.2)) (hs : ∀ env x, foldedSetIterable it env x = pure x) :
    SS Z (.Assign [.Name x p2] (.ListComp elt [⟨tge, it, ifs, 0⟩] scope pos) p) (sAsg i (eComp (own.map (·.2)) tg mi mt me)) := fun X W G φ fs B => by
  have main := ps_setLc (i := i) (spos := p) (g := gOf X.K tg) B.calm B.nd' (by rw [B.eN]; exact n.at_) (by rw [B.eS]; exact hl) (sw_true (py := p2) (pos := pos) (l := p.line) (by rw [B.eS]; exact hk) (by rw [B.eS]; exact hl) hli ha) (hi X W G φ fs B.toSX) (by rw [B.eN, B.eS]; exact blkOk_by ok)
    (fun s H C cl fp => hg _ _ _ _ _ (blk_sx B.toSX s H scope cl C fp)) (fun s H C cl fp => ht _ _ _ _ _ (blk_sx B.toSX s H scope cl C fp)) (fun s H C cl fp => he _ _ _ _ _ (blk_sx B.toSX s H scope cl C fp)) (hs X.env)
  refine ps_imp (ps_fzN main) fun D σ H q => ?_
  obtain ⟨ω0, H0, ρ, ω, t, R, A⟩ := q
  refine comp_run (Qg := fun d ω' t' H' => SR Z.Γ φ G fs ω0 H0 σ ρ ω' t' H' ∧ Wx ω H ω' ∧ Keep ω H H' ∧ AftS Z.Γ φ G fs ω0 H0 ω' H' (.ok (.nx (ρ.set i (.pl d))) t') D W) (fun D0 acc vs t2 ω2 H2 hD hD2 dv n2 s2 q => ?_) B.toSX hix R (aftS_bind R A)
  refine .inr ⟨D0, vs, hD2, fun o => ?_⟩
  obtain ⟨R1, w1, k1, A1⟩ := q (.frz o (.lst vs))
  exact aftS_nx (ρ' := ρ.set i (.pl (.lst acc))) A1 (R1.set (.lst ⟨o, upd_same⟩ (dv.mono (stay_own hD2) (.inr rfl) fun i fr h => by simp at h)))
/-- the same, the new list one's own -/
theorem ss_setLcOwn {elt : Expr} {ifs : List Expr} {scope : Scope} {own : List (Str × Nat)} {tg : Tg} {mi : CL} {mt me : CE} (n : Nw Z i x) (hk : Z.sc.kind = .function) (hl : Z.sc.names.lookup x = some .local) (hli : (p2.line == pos.line) = true) (ha : (scope.names.any fun (n, k) => n == x && (k == .local || k == .cell)) = false)
    (hi : SI Z tge it mi) (ok : blkC Z.N Z.sc scope own = true) (hg : SG (Z.blk scope) tge tg) (ht : STs (Z.blk scope) ifs mt) (he : SE (Z.blk scope) elt me) (hix : ∀ j ∈ tgIx tg, j ∈ own.map (·.2)) (hs : ∀ env x, foldedSetIterable it env x = pure x) :
    SS Z (.Assign [.Name x p2] (.ListComp elt [⟨tge, it, ifs, 0⟩] scope pos) p) (sAsgOwn i (eComp (own.map (·.2)) tg mi mt me)) := fun X W G φ fs B => by
  have main := ps_setLc (i := i) (spos := p) (g := gOf X.K tg) B.calm B.nd' (by rw [B.eN]; exact n.at_) (by rw [B.eS]; exact hl) (sw_true (py := p2) (pos := pos) (l := p.line) (by rw [B.eS]; exact hk) (by rw [B.eS]; exact hl) hli ha) (hi X W G φ fs B.toSX) (by rw [B.eN, B.eS]; exact blkOk_by ok)
    (fun s H C cl fp => hg _ _ _ _ _ (blk_sx B.toSX s H scope cl C fp)) (fun s H C cl fp => ht _ _ _ _ _ (blk_sx B.toSX s H scope cl C fp)) (fun s H C cl fp => he _ _ _ _ _ (blk_sx B.toSX s H scope cl C fp)) (hs X.env)
  refine ps_imp main fun D σ H q => ?_
  obtain ⟨ω0, H0, ρ, ω, t, R, A⟩ := q
  refine comp_run (Qg := fun d ω' t' H' => SR Z.Γ φ G fs ω0 H0 σ ρ ω' t' H' ∧ Wx ω H ω' ∧ Keep ω H H' ∧ AftS Z.Γ φ G fs ω0 H0 ω' H' ((match d with | .lst xs => (pure (.nx (ρ.set i (.own xs))) : M Fl) | _ => M.fail) t') D W) (fun D0 acc vs t2 ω2 H2 hD hD2 dv n2 s2 q => ?_) B.toSX hix R (aftS_bind R A)
  obtain ⟨R1, w1, k1, A1⟩ := q (.lst vs)
  have e : upd H2 D0 (.lst vs) = H2 := by
    funext b
    by_cases hb : b = D0
    · rw [hb, upd_same, hD2]
    · rw [upd_ne hb]
  rw [e] at R1 A1
  refine aftS_nx (ρ' := ρ.set i (.own acc)) A1 ⟨R1.rel.setOwn hD2 (dv.mono (.refl _) (.inr rfl) fun i fr h => by simp at h) (Classical.byContradiction fun z => keep_there R.rel.keep R.rel.wx R.st z hD) n2 fun j ys e z => ?_, R1.envs⟩
  obtain ⟨b, us, g1, g2, _⟩ := R.rel.own j ys e
  rw [z] at g1
  cases g1
  rw [hD] at g2
  cases g2
end
end Pv
end

section
set_option Elab.async false
set_option linter.all false
set_option maxRecDepth 100000
set_option maxHeartbeats 4000000
/-! parallel assignment, raise, try -/
namespace Pv
open PySem PySem.Spec PyProof.Rows L2
/-- slots and values; a list of one's own is new since Hb -/
inductive SlL (Γ : Gam) (ω : Wd) (φ : List Fr1) (H : Hp) : Hp → List Slot → List V → Prop
  | nil {Hb : Hp} : SlL Γ ω φ H Hb [] []
  | pl {Hb : Hp} {d : D} {v : V} {ss : List Slot} {vs : List V} : Dv Γ ω φ H d v → SlL Γ ω φ H Hb ss vs → SlL Γ ω φ H Hb (.pl d :: ss) (v :: vs)
  | own {Hb Hb' : Hp} {a : Addr} {us : List V} {xs : List D} {ss : List Slot} {vs : List V} : H a = some (.lst us) → ¬ inW ω a → DvL Γ ω φ H xs us → Hb a = none → (∀ b, Hb b ≠ none → Hb' b ≠ none) → Hb' a ≠ none → SlL Γ ω φ H Hb' ss vs →
      SlL Γ ω φ H Hb (.own xs :: ss) (.ref a :: vs)
section
variable {Γ : Gam} {φ : List Fr1} {G : List (Fr1 × L2.St)} {fs : List Env1} {ω0 ω ω1 : Wd} {H0 H H1 Hb Hb' : Hp} {σ : L2.St} {ρ : Env1} {t t1 : S0} {W : WX}
theorem SlL.weak {ss : List Slot} {vs : List V} (h : SlL Γ ω φ H Hb' ss vs) (k : ∀ b, Hb b ≠ none → Hb' b ≠ none) : SlL Γ ω φ H Hb ss vs := by
  induction h generalizing Hb with
  | nil => exact .nil
  | pl hv _ ih => exact .pl hv (ih k)
  | own h1 h2 h3 h4 h5 h6 h7 ih => exact .own h1 h2 h3 (Classical.byContradiction fun z => k _ z h4) (fun b hb => h5 b (k b hb)) h6 h7
theorem SlL.len {ss : List Slot} {vs : List V} (h : SlL Γ ω φ H Hb ss vs) : ss.length = vs.length := by
  induction h with
  | nil => rfl
  | pl _ _ ih => simp [ih]
  | own _ _ _ _ _ _ _ ih => simp [ih]
def setVs (σ : L2.St) : List Nat → List V → L2.St
  | i :: r, v :: vs => setVs (σ.set i (some v)) r vs
  | _, _ => σ
theorem slots_ok {is : List Nat} {ss : List Slot} {vs : List V} (h : SlL Γ ω φ H Hb ss vs) (r : Rel Γ ω φ ω0 H0 ρ t σ H) (ho : ∀ (j : Nat) (ys : List D) (a : Addr), ρ[j]? = some (Slot.own ys) → σ[j]? = some (some (V.ref a)) → Hb a ≠ none)
    (h0 : ∀ b, Hb b = none → H0 b = none) : Rel Γ ω φ ω0 H0 (setSl ρ is ss) t (setVs σ is vs) H := by
  induction h generalizing ρ σ is with
  | nil => cases is <;> exact r
  | @pl Hb d v ss vs hv _ ih =>
    cases is with
    | nil => exact r
    | cons i is =>
      refine ih (r.set hv) (fun j ys a e1 e2 => ?_) h0
      rcases get_set_some e1 with ⟨rfl, _, q⟩ | ⟨hn, q⟩
      · cases q
      · rw [List.getElem?_set_ne hn] at e2
        exact ho j ys a q e2
  | @own Hb Hb' a us xs ss vs h1 h2 h3 h4 h5 h6 h7 ih =>
    cases is with
    | nil => exact r
    | cons i is =>
      refine ih (r.setOwn h1 h3 (h0 _ h4) h2 fun j ys e z => ho j ys a e z h4) (fun j ys b e1 e2 => ?_) fun b hb => h0 b (Classical.byContradiction fun z => h5 b z hb)
      rcases get_set_some e1 with ⟨rfl, hl, q⟩ | ⟨hn, q⟩
      · rw [List.getElem?_set_self (by rw [← r.len]; exact hl)] at e2
        cases e2
        exact h6
      · rw [List.getElem?_set_ne hn] at e2
        exact h5 b (ho j ys b q e2)
def tSl (Γ : Gam) (φ : List Fr1) (G : List (Fr1 × L2.St)) (fs : List Env1) (W : WX) (n : Nat) (f : Env1 → M (List Slot)) : TA := fun σ H Q => ∃ ω0 H0 ρ ω t, SR Γ φ G fs ω0 H0 σ ρ ω t H ∧ Aft Γ ω φ H (f ρ t) (fun ss ω' t' H' => ∀ vs, SlL Γ ω' φ H' H ss vs → vs.length = n → Q vs H') fun c d H' => W c d σ H'
theorem tSl_bind {β : Type} {n : Nat} {g : Env1 → M (List Slot)} {f : List Slot → M β} {Q : β → Wd → S0 → Hp → Prop} {K : List V → Hp → Prop} (R : SR Γ φ G fs ω0 H0 σ ρ ω t H) (A : Aft Γ ω φ H ((g ρ >>= f) t) Q fun c d H' => W c d σ H')
    (k : ∀ ss vs ω1 t1 H1, SR Γ φ G fs ω0 H0 σ ρ ω1 t1 H1 → Wx ω H ω1 → Keep ω H H1 → SlL Γ ω1 φ H1 H ss vs → vs.length = n → Aft Γ ω1 φ H1 (f ss t1) Q (fun c d H' => W c d σ H') → K vs H1) : tSl Γ φ G fs W n g σ H K :=
  ⟨ω0, H0, ρ, ω, t, R, (aft_bind A).imp (fun d ω1 t1 H1 w kp s A1 v hv hn => k d v ω1 t1 H1 (R.step w kp s) w kp hv hn A1) fun _ _ _ e => e⟩
end
def SPar (Z : Sn) (es : List Expr) (ps : List PI1) : Prop := ∀ X W G φ fs, SX Z X W G φ fs → PA X es (tSl Z.Γ φ G fs W ps.length fun ρ => runs1 (Z.c fs) ρ ps)
def env0 (sc : Scope) : Env := { scope := sc, locals := 0, globals := 0, cells := [], qual := "", func := none, code := .none, frame := none, builtins := 0 }
theorem sw_env {ts : List Expr} {v : Expr} {env : Env} : swappedStores ts v env = swappedStores ts v (env0 env.scope) := rfl
theorem sw_of {ts : List Expr} {v : Expr} {sc : Scope} {r : Sem (Option (List Str))} (h : swappedStores ts v (env0 sc) = r) : ∀ env : Env, env.scope = sc → swappedStores ts v env = r := fun env e => by
  rw [sw_env, e]
  exact h
section
variable {Z : Sn} {a b d e : Expr} {ma mb md m : CE} {pos p p2 px py pz pt : Pos} {es : List Expr} {ps : List PI1} {x y z : Str} {i j l k : Nat} {kt k2 : Nat} {pt2 : Pos}
theorem spar_nil : SPar Z [] [] := fun X W G φ fs B => pa_imp pa_nil fun σ H Q h => by
  obtain ⟨ω0, H0, ρ, ω, t, R, A⟩ := h
  exact Aft.now (a := ([] : List Slot)) A R.st _ .nil rfl
theorem spar_e (he : SE Z e m) (hr : SPar Z es ps) (hs : ∀ env, starEach (e :: es) env = (false, eval e env) :: starEach es env) : SPar Z (e :: es) (.e m :: ps) := by
  refine fun X W G φ fs B => pa_imp (pa_cons (he X W G φ fs B) (hr X W G φ fs B) (hs X.env)) fun σ H Q h => ?_
  obtain ⟨ω0, H0, ρ, ω, t, R, A⟩ := h
  have A2 : Aft Z.Γ ω φ H ((m (Z.c fs) ρ >>= fun x => runs1 (Z.c fs) ρ ps >>= fun ss => pure (Slot.pl x :: ss)) t) (fun ss ω' t' H' => ∀ vs, SlL Z.Γ ω' φ H' H ss vs → vs.length = ps.length + 1 → Q vs H') fun c d H' => W c d σ H' := by
    have e9 : runs1 (Z.c fs) ρ (.e m :: ps) = (m (Z.c fs) ρ >>= fun x => runs1 (Z.c fs) ρ ps >>= fun ss => pure (Slot.pl x :: ss)) := by
      show (PI1.run (Z.c fs) ρ (.e m) >>= _) = _
      unfold PI1.run
      simp only [M.assoc, M.pure_bind]
    have e9 := congrArg (fun f => f t) e9
    rw [← show runs1 (Z.c fs) ρ (.e m :: ps) t = _ from e9]
    exact A
  refine tV_bind R A2 fun x v ω1 t1 H1 R1 w1 k1 hv A1 => ?_
  refine tSl_bind R1 A1 fun ss us ω2 t2 H2 R2 w2 k2 hu hn A3 => ?_
  exact Aft.now (a := Slot.pl x :: ss) A3 R2.st _ (.pl (hv.step R1 w2 k2) (hu.weak fun b hb => keep_there k1 w1 R1.st hb)) (by simp [hn])
theorem spar_l (hr : SPar Z es ps) (hs : ∀ env, starEach (.List [] pos :: es) env = (false, eval (.List [] pos) env) :: starEach es env) : SPar Z (.List [] pos :: es) (.nil :: ps) := by
  refine fun X W G φ fs B => pa_imp (pa_cons (pe_lst pa_nil) (hr X W G φ fs B) (hs X.env)) fun σ H Q h => ?_
  obtain ⟨ω0, H0, ρ, ω, t, R, A⟩ := h
  refine ⟨Nat.zero_le _, fun q hq => ?_⟩
  have R1 := R.step (.refl ω H) (keep_new (o := .lst []) hq) (R.st.new hq)
  have n1 := R.st.notIn hq
  have A1 : Aft Z.Γ ω φ (upd H q (.lst [])) ((runs1 (Z.c fs) ρ ps >>= fun ss => pure (Slot.own [] :: ss)) t) (fun ss ω' t' H' => ∀ vs, SlL Z.Γ ω' φ H' H ss vs → vs.length = ps.length + 1 → Q vs H') fun c d H' => W c d σ H' := Aft.step (.refl ω H) (keep_new hq) A
  refine tSl_bind R1 A1 fun ss us ω2 t2 H2 R2 w2 k2 hu hn A3 => ?_
  have hq2 : H2 q = some (.lst []) := k2.obj q _ upd_same (fun _ z => by cases z) n1
  exact Aft.now (a := Slot.own [] :: ss) A3 R2.st _ (.own hq2 (notIn_step n1 upd_same w2) .nil hq (fun b hb => by
    by_cases e : b = q
    · rw [e, upd_same]
      simp
    · rw [upd_ne e]
      exact hb) (by rw [upd_same]; simp) hu) (by simp [hn])
/-- x = [] -/
theorem ss_own (n : Nw Z i x) : SS Z (.Assign [.Name x p] (.List [] p2) pos) (sPar [i] [.nil]) := fun X W G φ fs B =>
  ps_imp (ps_set (pos' := p) B.nd' (by rw [B.eN]; exact n.at_) (n.loc' B.toSX) (pe_lst pa_nil) rfl (n.fn' B.toSX)) fun D σ H h => by
    obtain ⟨ω0, H0, ρ, ω, t, R, A⟩ := h
    refine ⟨Nat.zero_le _, fun q hq => ?_⟩
    have s1 := R.st.new (o := .lst []) hq
    have R1 := R.step (.refl ω H) (keep_new (o := .lst []) hq) s1
    have n1 := R.st.notIn hq
    have h0 : H0 q = none := Classical.byContradiction fun z => keep_there R.rel.keep R.rel.wx R.st z hq
    exact (show AftS Z.Γ φ G fs ω0 H0 ω H (.ok (.nx (ρ.set i (.own []))) t) D W from A) _ ω _ ⟨R1.rel.setOwn upd_same .nil h0 n1 fun j ys e z => (by
      obtain ⟨b, us, g1, g2, _⟩ := R.rel.own j ys e
      rw [z] at g1
      cases g1
      rw [hq] at g2
      cases g2), R1.envs⟩ (stay_new hq) (.inr rfl)
theorem slots_rel {X : Cx} {W : WX} {G : List (Fr1 × L2.St)} {φ : List Fr1} {fs : List Env1} {ω0 ω ω1 : Wd} {H0 H H1 : Hp} {σ : L2.St} {ρ : Env1} {t t1 : S0} {is : List Nat} {ss : List Slot} {vs : List V} (R : SR Z.Γ φ G fs ω0 H0 σ ρ ω t H) (R1 : SR Z.Γ φ G fs ω0 H0 σ ρ ω1 t1 H1) (hu : SlL Z.Γ ω1 φ H1 H ss vs) :
    SR Z.Γ φ G fs ω0 H0 (setVs σ is vs) (setSl ρ is ss) ω1 t1 H1 :=
  ⟨slots_ok hu R1.rel (fun j ys a e1 e2 => by
    obtain ⟨b, us, g1, g2, _⟩ := R.rel.own j ys e1
    rw [e2] at g1
    cases g1
    rw [g2]
    simp) fun b hb => Classical.byContradiction fun z => keep_there R.rel.keep R.rel.wx R.st z hb, R1.envs⟩
theorem par_bind {X : Cx} {W : WX} {G : List (Fr1 × L2.St)} {φ : List Fr1} {fs : List Env1} {ω0 ω : Wd} {H0 H : Hp} {σ : L2.St} {ρ : Env1} {t : S0} {n : Nat} {is : List Nat} {g : Env1 → M (List Slot)} {D : Ends} {K : List V → Hp → Prop} (R : SR Z.Γ φ G fs ω0 H0 σ ρ ω t H)
    (A : AftS Z.Γ φ G fs ω0 H0 ω H ((g ρ >>= fun ss => (pure (.nx (setSl ρ is ss)) : M Fl)) t) D W) (k : ∀ vs H1, vs.length = n → D.nx (setVs σ is vs) H1 → K vs H1) : tSl Z.Γ φ G fs W n g σ H K :=
  ⟨ω0, H0, ρ, ω, t, R, (aftS_bind R A).imp (fun ss ω1 t1 H1 _ _ _ h vs hv hn => by
    obtain ⟨R1, w1, k1, A1⟩ := h
    exact k vs H1 hn (aftS_nx (ρ' := setSl ρ is ss) A1 (slots_rel (X := X) (W := W) R R1 hv))) fun _ _ _ e => e⟩
theorem ss_par2 {q1 q2 : PI1} (n1 : Nw Z i x) (n2 : Nw Z j y) (hij : i ≠ j) (hx : Z.sc.names.lookup x = some .local) (hy : Z.sc.names.lookup y = some .local) (h : SPar Z [a, b] [q1, q2])
    (hw : swappedStores [.Tuple [.Name x px, .Name y py] kt pt] (.Tuple [a, b] k2 pt2) (env0 Z.sc) = pure (some [x, y])) (hs : ∀ env, swapsWithSole [.Tuple [.Name x px, .Name y py] kt pt] (.Tuple [a, b] k2 pt2) pos.line env = pure false) :
    SS Z (.Assign [.Tuple [.Name x px, .Name y py] kt pt] (.Tuple [a, b] k2 pt2) pos) (sPar [i, j] [q1, q2]) := fun X W G φ fs B =>
  ps_imp (ps_par B.calm B.nd' (by rw [B.eN]; exact n1.at_) (by rw [B.eN]; exact n2.at_) hij (by rw [B.eS]; exact hx) (by rw [B.eS]; exact hy) (h X W G φ fs B.toSX) (sw_of hw X.env B.eS) (hs X.env)) fun D σ H q => by
    obtain ⟨ω0, H0, ρ, ω, t, R, A⟩ := q
    refine par_bind (X := X) R A fun vs H1 hn hd => ?_
    match vs, hn with
    | [v, w], _ => exact ⟨v, w, rfl, hd⟩
theorem ss_par3 {c : Expr} {q1 q2 q3 : PI1} (n1 : Nw Z i x) (n2 : Nw Z j y) (n3 : Nw Z l z) (hij : i ≠ j) (hil : i ≠ l) (hjl : j ≠ l) (hx : Z.sc.names.lookup x = some .local) (hy : Z.sc.names.lookup y = some .local) (hz : Z.sc.names.lookup z = some .local) (h : SPar Z [a, b, c] [q1, q2, q3])
    (hw : swappedStores [.Tuple [.Name x px, .Name y py, .Name z pz] kt pt] (.Tuple [a, b, c] k2 pt2) (env0 Z.sc) = pure (some [x, y, z])) (hs : ∀ env, swapsWithSole [.Tuple [.Name x px, .Name y py, .Name z pz] kt pt] (.Tuple [a, b, c] k2 pt2) pos.line env = pure false) :
    SS Z (.Assign [.Tuple [.Name x px, .Name y py, .Name z pz] kt pt] (.Tuple [a, b, c] k2 pt2) pos) (sPar [i, j, l] [q1, q2, q3]) := fun X W G φ fs B =>
  ps_imp (L2.ps_par3 B.calm B.nd' (by rw [B.eN]; exact n1.at_) (by rw [B.eN]; exact n2.at_) (by rw [B.eN]; exact n3.at_) hij hil hjl (by rw [B.eS]; exact hx) (by rw [B.eS]; exact hy) (by rw [B.eS]; exact hz) (h X W G φ fs B.toSX) (sw_of hw X.env B.eS) (hs X.env)) fun D σ H q => by
    obtain ⟨ω0, H0, ρ, ω, t, R, A⟩ := q
    refine par_bind (X := X) R A fun vs H1 hn hd => ?_
    match vs, hn with
    | [v, w, u], _ => exact ⟨v, w, u, rfl, hd⟩
end
/-! raise -/
/-- an error class with one field -/
def ErrK (Γ : Gam) (c : Nat) (x f : Str) : Prop := ∃ (C fI cda cc : Addr) (fd : FuncData), Γ.ca c = some (C, some f) ∧ SupC Γ.K Γ.prog C fI cda cc ∧ IniD Γ.K f fI cda cc fd ∧ PySem.W.findIn Γ.K (.ref C) "__init__" = some (some (.ref fI)) ∧
  PySem.W.typeIn Γ.K (.ref fI) = some (.type "function") ∧ Binds Γ.K fd ["self", f] [] ∧ Γ.mg x = some (.ref C) ∧ Γ.mg "super" = none ∧ (f == ("__debug__" : Str)) = false ∧ (f == ("__classdict__" : Str)) = false
section
variable {Γ : Gam} {ω : Wd} {H H1 : Hp} {t : S0}
theorem st_ext (s : StRel Γ ω t H) (k : ∀ b u, H b = some u → H1 b = some u) : StRel Γ ω t H1 := by
  refine ⟨s.tabs.ext k, ?_⟩
  have d := s.ds
  cases ω with
  | none => cases t <;> exact d
  | some w =>
    cases t with
    | none => exact d
    | some z =>
      obtain ⟨a, l, c⟩ := w
      obtain ⟨h1, h2, o, h3⟩ := d
      exact ⟨k _ _ h1, k _ _ h2, o, k _ _ h3⟩
theorem keep_ext (k : ∀ b u, H b = some u → H1 b = some u) : Keep ω H H1 := ⟨fun b u e _ _ => k b u e, fun b ps e => ⟨#[], by rw [k b _ e]; simp⟩⟩
end
section
variable {Z : Sn} {e : Expr} {m : CE} {pos p pos2 : Pos} {x f : Str} {k : Nat}
theorem ss_raise (E : ErrK Z.Γ k x f) (hg : glB Z.sc x = true) (h : SE Z e m) (he : ∀ env, starEach [e] env = (false, eval e env) :: starEach [] env) (hpl : ∀ env, (backTo pos2 (starEach [] env)).any (·.1) = false) :
    SS Z (.Raise (some (.Call (.Name x p) [e] [] pos2)) none pos) (sRaise k m) := fun X W G φ fs B => by
  obtain ⟨C, fI, cda, cc, fd, hca, T, ID, iC, tI, hb, hm, hsup, hd1, hd2⟩ := E
  have F1 : FnOk X.prog X.w X.K X.mg X.base CX0 1 fI fd ["self", f] (spIni C f) := by
    rw [B.eK, B.eP, B.eM]
    exact ini_ok T ID (B.gok.at_ _ _ _ hca) hsup hd1 hd2
  have hT : OexC X.K C := by
    rw [B.eK]
    exact T.ox
  refine ps_imp (ps_raise B.calm B.tk (pmk_oex (dvs := []) hT (by rw [B.eK]; exact iC) (by rw [B.eK]; exact tI) F1 (B.room.mono (by omega)) (by rw [B.eK]; exact hb) .nil (fun _ _ _ _ _ _ _ z => z.elim) (B.gl hg) (by rw [B.eM]; exact hm)
    (pa_cons (h X W G φ fs B.toSX) pa_nil (he X.env)) (gl_by hg).2.1 (he X.env) (hpl X.env))) fun D σ H q => ?_
  obtain ⟨ω0, H0, ρ, ω, t, R, A⟩ := q
  refine tV_bindS R A fun d v ω1 t1 H1 R1 w1 k1 hv A1 => ?_
  refine ⟨by simp, fun a ha => ⟨a, v, rfl, upd_same, fun dx hdx hne => ⟨rfl, dx, [(f, v)], upd_same, ?_, ?_, ?_⟩⟩⟩
  · rw [upd_ne hne, upd_same]
  · rw [upd_ne hne] at hdx
    exact hdx
  · rw [upd_ne hne] at hdx
    have ext : ∀ b u, H1 b = some u → upd (del (upd (upd (upd H1 a (exo a C none)) dx (exd dx [(f, v)])) a (exo a C (some dx))) a) dx (.xd [(f, v)]) b = some u := fun b u e => by
      have n1 := ne_of_none e hdx
      have n2 := ne_of_none e ha
      rw [upd_ne n1, del_ne n2, upd_ne n2, upd_ne n1, upd_ne n2]
      exact e
    refine (show AftS Z.Γ φ G fs ω0 H0 ω1 H1 (.exc k (some d) t1) D W from A1) σ C (some dx) ω1 _ (R1.rel.wx) (R1.rel.keep.trans R1.rel.wx (keep_ext ext)) (st_ext R1.st ext) ⟨some f, hca, dx, v, rfl, upd_same, hv.mono (fun b u e _ => ext b u e) (.inr rfl) fun _ _ h => h⟩
end
/-! try: e; except K as n: y = n -/
section
variable {Γ : Gam} {φ : List Fr1} {G : List (Fr1 × L2.St)} {fs : List Env1} {ω0 ω : Wd} {H0 H : Hp} {σ : L2.St} {ρ : Env1} {t : S0}
theorem Rel.unset (r : Rel Γ ω φ ω0 H0 ρ t σ H) (i : Nat) : Rel Γ ω φ ω0 H0 (ρ.set i .un) t (σ.set i none) H := by
  refine ⟨r.st, by rw [List.length_set, List.length_set]; exact r.len, fun j d' e => ?_, fun j xs e => ?_, fun j l xs ys a e1 e2 e3 e4 => ?_, r.wx, r.keep⟩
  · rcases get_set_some e with ⟨rfl, hl, q⟩ | ⟨hn, q⟩
    · cases q
    · rw [List.getElem?_set_ne hn]
      exact r.slot j d' q
  · rcases get_set_some e with ⟨rfl, hl, q⟩ | ⟨hn, q⟩
    · cases q
    · rw [List.getElem?_set_ne hn]
      exact r.own j xs q
  · rcases get_set_some e1 with ⟨rfl, hl, q⟩ | ⟨hn, q⟩
    · cases q
    · rcases get_set_some e2 with ⟨rfl, hl, q2⟩ | ⟨hn2, q2⟩
      · cases q2
      · rw [List.getElem?_set_ne hn] at e3
        rw [List.getElem?_set_ne hn2] at e4
        exact r.dist j l xs ys a q q2 e3 e4
end
theorem SX.tr {Z : Sn} {X : Cx} {W W' : WX} {G : List (Fr1 × L2.St)} {φ : List Fr1} {fs : List Env1} (B : SX Z X W G φ fs) {pn : List (Addr × Obj)} {xe : Value → Shared → Prop} (tk : Takes (X.tr pn xe) W') : SX Z (X.tr pn xe) W' G φ fs where
  eK := B.eK
  eP := B.eP
  eM := B.eM
  eN := B.eN
  eS := B.eS
  gok := B.gok
  calm := B.calm
  nd := B.nd
  tk := tk
  cg := ⟨B.cg.gd, B.cg.cells, B.cg.sep⟩
  fg := ⟨B.fg.cell, B.fg.fn⟩
  fn := B.fn
  room := B.room
  hφ := B.hφ
  prom := B.prom
  tb := B.tb
  code := B.code
section
variable {Z : Sn} {e : Expr} {m : CE} {pos p pos0 pos' np py pn2 p3 : Pos} {x n y : Str} {i j k : Nat}
theorem ss_try (h : SE Z e m) (hsw : ∀ env, swapsWith e none pos0.line env = pure false) (hn : Z.N[i]? = some n) (hln : Z.sc.names.lookup n = some .local) (hvn : Nm Z i n) (ny : Nw Z j y) {C : Addr} {fo : Option Str} (hca : Z.Γ.ca k = some (C, fo)) (hg : glB Z.sc x = true) (hm : Z.Γ.mg x = some (.ref C)) :
    SS Z (.Try [.Expr e pos0] [.ExceptHandler (some (.Name x np)) (some n) [.Assign [.Name y py] (.Name n pn2) p3] pos'] [] [] pos) (sTry m k i j) := fun X W G φ fs B => by
  have hN : X.N[i]? = some n := by
    rw [B.eN]
    exact hn
  have hNj : X.N[j]? = some y := by
    rw [B.eN]
    exact ny.at_
  have hl' : X.env.kindOf n = some .local := by
    show X.env.scope.names.lookup n = _
    rw [B.eS]
    exact hln
  refine ps_imp (ps_try_told (i := i) (c := .ref C) (Wo := W) (tb := fun W' => tDrop (tV Z.Γ φ G fs W' (m (Z.c fs)))) (ts := fun _ _ _ => tAsg (tVar i) (gName j)) B.stk B.frm B.ex B.nd' hN hl' ⟨B.gl hg, (gl_by hg).2.1, .inl (by rw [B.eM]; exact hm)⟩ B.tk
    (fun W' pn xe tk _ => pss_one (ps_expr (h (X.tr pn xe) W' G φ fs (B.toSX.tr tk)) (hsw _)))
    (fun a cls d pn => pss_one (ps_set (X := X.suite a pn) (i := j) B.nd' hNj (show Loc X.env.scope y from ny.loc' B.toSX) (pe_var (X := X.suite a pn) (i := i) hN (.inl hl') hvn.d1 hvn.d2) rfl (show X.fn y = true ∨ X.env.scope.names.lookup y = some .local from ny.fn' B.toSX)))) fun D σ H q => ?_
  obtain ⟨ω0, H0, ρ, ω, t, R, A⟩ := q
  refine ⟨ω0, H0, ρ, ω, t, R, ?_⟩
  have A : AftS Z.Γ φ G fs ω0 H0 ω H (match m (Z.c fs) ρ t with
    | .ok _ t' => .ok (.nx ρ) t'
    | .exc q x t' => match Z.P.sub q k with
      | some true => if i < ρ.length then .ok (.nx (((ρ.set i (.pl (.err q x))).set j (.pl (.err q x))).set i .un)) t' else .bad
      | some false => .exc q x t'
      | none => .bad
    | .bad => .bad) D W := A
  cases hm : m (Z.c fs) ρ t with
  | bad =>
    rw [hm] at A
    exact A
  | ok d t' =>
    rw [hm] at A
    intro ω' H' w kp s v hv
    exact (show AftS Z.Γ φ G fs ω0 H0 ω H (.ok (.nx ρ) t') D W from A) σ ω' H' (R.step w kp s) (kp.stay R.st) w.mono
  | exc c x t' =>
    rw [hm] at A
    intro C' dd ω' H' w kp s hE
    obtain ⟨fo', hc', hx⟩ := id hE
    have A : AftS Z.Γ φ G fs ω0 H0 ω H (match Z.P.sub c k with
      | some true => if i < ρ.length then .ok (.nx (((ρ.set i (.pl (.err c x))).set j (.pl (.err c x))).set i .un)) t' else .bad
      | some false => .exc c x t'
      | none => .bad) D W := A
    cases hs : Z.P.sub c k with
    | none =>
      rw [hs] at A
      exact A.elim
    | some b =>
      rw [hs] at A
      refine ⟨b, by rw [B.eK]; exact (B.gok.one c k C' C fo' fo b hc' hca hs).2, fun hb a ha => ?_, fun hb => ?_⟩
      · subst hb
        have R1 := (R.step w kp s).step (.refl _ _) (keep_new (o := ErrO (.ref C') dd a) ha) (s.new ha)
        have st := stay_new (o := ErrO (.ref C') dd a) ha
        have dv : Dv Z.Γ ω' φ (upd H' a (ErrO (.ref C') dd a)) (.err c x) (.ref a) := by
          cases fo' with
          | none =>
            cases x with
            | none =>
              have hx : dd = none := hx
              subst hx
              exact .err0 hc' upd_same
            | some y => exact hx.elim
          | some f =>
            cases x with
            | none => exact hx.elim
            | some y =>
              obtain ⟨d, v, rfl, hd, dv⟩ := hx
              exact .err1 hc' upd_same (st _ _ hd rfl) (dv.mono st (.inr rfl) fun _ _ h => h)
        have A : AftS Z.Γ φ G fs ω0 H0 ω H (if i < ρ.length then .ok (.nx (((ρ.set i (.pl (.err c x))).set j (.pl (.err c x))).set i .un)) t' else .bad) D W := A
        by_cases hlen : i < ρ.length
        case neg =>
          rw [if_neg hlen] at A
          exact A.elim
        rw [if_pos hlen] at A
        have hlen : i < σ.length := by
          rw [← R.rel.len]
          exact hlen
        refine ⟨.ref a, by rw [List.getElem?_set_self hlen], ?_⟩
        have R2 : SR Z.Γ φ G fs ω0 H0 (((σ.set i (some (.ref a))).set j (some (.ref a))).set i none) (((ρ.set i (.pl (.err c x))).set j (.pl (.err c x))).set i .un) ω' t' (upd H' a (ErrO (.ref C') dd a)) := ⟨((R1.rel.set dv).set dv).unset i, R1.envs⟩
        exact A _ ω' _ R2 ((kp.stay R.st).trans st) w.mono
      · subst hb
        exact A σ C' dd ω' H' (R.rel.wx.trans R.rel.keep w) (R.rel.keep.trans R.rel.wx kp) s hE
end
end Pv
end

section
set_option Elab.async false
set_option linter.all false
set_option maxRecDepth 100000
set_option maxHeartbeats 4000000
/-! a def by its combinators -/
namespace Pv
open PySem PySem.Spec PyProof.Rows L2
theorem cellsFrom_mem : ∀ {names : List (Str × NameKind)} {n : Nat} {acc : List (Str × Addr)} {x : Str} {c : Addr}, (x, c) ∈ cellsFrom n names acc → (x, c) ∈ acc ∨ (x, .cell) ∈ names
  | [], _, _, _, _, h => .inl h
  | (y, k) :: r, n, acc, x, c, h => by
    cases k with
    | cell =>
      rcases cellsFrom_mem (names := r) h with h | h
      · rcases List.mem_cons.mp h with h | h
        · cases h
          exact .inr List.mem_cons_self
        · exact .inl h
      · exact .inr (List.mem_cons_of_mem _ h)
    | _ =>
      rcases cellsFrom_mem (names := r) h with h | h
      · exact .inl h
      · exact .inr (List.mem_cons_of_mem _ h)
section
variable {Γ : Gam} {φ : List Fr1} {ω : Wd} {H : Hp} {t : S0}
theorem start_rel {N : List Str} {ds : List D} {vs : List V} {ns : Nat} (s : StRel Γ ω t H) (hv : DvL Γ ω φ H ds vs) (hn : ns = N.length) : Rel Γ ω φ ω H (startE ns ds) t (L2.start N vs) H := by
  have noown : ∀ (i : Nat) (xs : List D), (startE ns ds)[i]? = some (.own xs) → False := fun i xs e => by
    unfold startE at e
    by_cases h : i < ds.length
    · rw [List.getElem?_append_left (by simpa using h), List.getElem?_map, List.getElem?_eq_getElem h] at e
      cases e
    · rw [List.getElem?_append_right (by simpa using h)] at e
      have := List.mem_of_getElem? e
      have q := (List.mem_replicate.mp this).2
      cases q
  refine ⟨s, ?_, fun i d e => ?_, fun i xs e => (noown i xs e).elim, fun i _ xs _ _ e => (noown i xs e).elim, .refl _ _, .refl _ _⟩
  · unfold startE L2.start
    simp [hv.length, hn]
  · unfold startE at e
    by_cases h : i < ds.length
    · rw [List.getElem?_append_left (by simpa using h), List.getElem?_map] at e
      cases q : ds[i]? with
      | none =>
        rw [q] at e
        cases e
      | some d' =>
        rw [q] at e
        cases e
        obtain ⟨v, h1, h2⟩ := hv.get q
        refine ⟨v, ?_, h2⟩
        unfold L2.start
        rw [List.getElem?_append_left (by rw [List.length_map, ← hv.length]; exact h), List.getElem?_map, h1] <;> rfl
    · rw [List.getElem?_append_right (by simpa using h)] at e
      have := List.mem_of_getElem? e
      have q := (List.mem_replicate.mp this).2
      cases q
theorem errV_noLam {c : Nat} {x : Option D} {C : Addr} {dd : Option Addr} {n : Nat} (h : noLamO n x = true) (E : ErrV Γ ω φ H c x C dd) : ErrV Γ ω (φ.take n) H c x C dd := by
  obtain ⟨fo, h1, h2⟩ := E
  refine ⟨fo, h1, ?_⟩
  cases fo with
  | none => cases x <;> exact h2
  | some f =>
    cases x with
    | none => exact h2
    | some y =>
      obtain ⟨d, v, e1, e2, e3⟩ := h2
      exact ⟨d, v, e1, e2, noLam_dv h e3⟩
end
/-- which defs are what -/
structure DefC (Γ : Gam) (P : Prog) (n : Nat) (f : Nat) (I : FnI) : Prop where
  ex : ∃ (name qual : Str) (params : Arguments) (body : List Stmt) (scope : Scope) (dV kV doc pm cdv ct oc : Value) (an od : Option Addr) (osl : Array (Option Value)) (N : List Str) (fl : Bool) (m : CS),
    I.fd = PySem.W.fnOf name qual params body scope dV kV doc pm an cdv ct ∧ Γ.K.lookup I.fa = some ⟨oc, od, .func I.fd, osl⟩ ∧ PySem.W.codeIn Γ.K cdv qual = true ∧ FnScope N I.ps scope ∧ P.fns f = some (.code I.ps.length N.length fl m) ∧
    (fl = true → (∀ y ∈ scope.names, scope.names.lookup y.1 = some y.2) ∧ ∃ c Pa, cdv = .ref c ∧ Γ.tb (qual ++ ".<locals>.") = some (c, Pa)) ∧
    ∀ k, SSs ⟨Γ, P, n, k, fl, N, scope, qual ++ ".<locals>.", fun _ => true⟩ body m
theorem fnG_code {Γ : Gam} {P : Prog} {n k f : Nat} {I : FnI} {w : World} {base : Heap} (DC : DefC Γ P n f I) (gok : GOk Γ P) (prom : ∀ j, j ≤ k → ∀ g J, Γ.fi g = some J → FnG Γ.prog w Γ.K Γ.mg base (j + 4) J.fa J.fd J.ps (spF Γ ((run P n j).1 g)))
    (tb : ∀ q c Pa, Γ.tb q = some (c, Pa) → LamX.TabB base Γ.mg c Pa) : FnG Γ.prog w Γ.K Γ.mg base (k + 1 + 4) I.fa I.fd I.ps (spF Γ ((run P n (k + 1)).1 f)) := by
  obtain ⟨name, qual, params, body, scope, dV, kV, doc, pm, cdv, ct, oc, an, od, osl, N, fl, m, hfd, lk, hcd, S, hP, hfl, hb⟩ := DC.ex
  have hlen : ∀ G vs H Q E, spF Γ ((run P n (k + 1)).1 f) G vs H Q E → vs.length = I.ps.length := fun G vs H Q E h => by
    obtain ⟨ω, fs, ds, t, hv, st, er, A⟩ := h
    by_cases e : ds.length = I.ps.length
    · rw [← hv.length]
      exact e
    · rw [run_code_ne hP e] at A
      exact A.elim
  rw [hfd] at lk ⊢
  refine fnG_of (k := k + 4) lk hcd S hlen fun A outer s H vs Q E G hr CG hsp => ?_
  have hln := hlen _ _ _ _ _ hsp
  obtain ⟨ω, fs, ds, t, hv, st, er, A9⟩ := hsp
  have hdl : ds.length = I.ps.length := by
    rw [hv.length]
    exact hln
  rw [run_code hP hdl] at A9
  have hfsl : fs.length = (G.map (·.1)).length := by
    rw [List.length_map]
    exact er.len
  generalize hX : cxOf (L2.CX Γ.prog w) Γ.prog w Γ.K Γ.mg base N qual scope I.fa cdv A outer s H E = X at CG ⊢
  let φ : List Fr1 := G.map (·.1) ++ if fl then [⟨X.N, X.env.cells⟩] else []
  have pre : ∀ (i : Nat) (fr : Fr1), (G.map (·.1))[i]? = some fr → φ[i]? = some fr := fun i fr e => by
    show (G.map (·.1) ++ _)[i]? = _
    rw [List.getElem?_append_left (List.getElem?_eq_some_iff.mp e).1]
    exact e
  have htk : φ.take fs.length = G.map (·.1) := by
    show (G.map (·.1) ++ _).take fs.length = _
    rw [hfsl, List.take_left']
    rfl
  have B : SXs ⟨Γ, P, n, k, fl, N, scope, qual ++ ".<locals>.", fun _ => true⟩ X (fun cls d _ H => E cls d H) G φ fs := by
    subst hX
    exact {
      eK := rfl
      eP := rfl
      eM := rfl
      eN := rfl
      eS := rfl
      gok := gok
      calm := rfl
      nd := S.nd
      tk := takes_of rfl rfl rfl rfl
      cg := CG
      fg := ⟨fun hf x c e => by
        have hm : (x, c) ∈ cellsFrom (s.heap.objs.size + 1) scope.names [] := PySem.mem_of_lookup e
        rcases cellsFrom_mem hm with z | z
        · cases z
        · exact (hfl hf).1 _ z, fun _ _ => rfl⟩
      fn := fun _ _ _ => .inl rfl
      room := hr
      hφ := rfl
      prom := prom
      tb := tb
      code := fun hf => by
        obtain ⟨c, Pa, h1, h2⟩ := (hfl hf).2
        exact ⟨c, Pa, h1, h2, rfl⟩
      po := passes_of rfl
      stk := rfl
      frm := rfl
      ex := rfl }
  refine ⟨_, hb k X _ G φ fs B, ω, H, startE N.length ds, ω, t, ⟨?_, ?_⟩, ?_⟩
  · exact start_rel st (hv.mono (.refl _) (.inr rfl) pre) rfl
  · refine ⟨er.len, fun j ρ p e1 e2 i d e => ?_⟩
    obtain ⟨v, h1, h2⟩ := er.at_ j ρ p e1 e2 i d e
    exact ⟨v, h1, h2.mono (.refl _) (.inr rfl) pre⟩
  · show AftS Γ φ G fs ω H ω H (m (ctxOf P n (run P n k) fl fs) (startE N.length ds) t) { nx := fun _ H' => Q .non H', rt := Q } fun cls d _ H => E cls d H
    unfold outD at A9
    cases h : m (ctxOf P n (run P n k) fl fs) (startE N.length ds) t with
    | bad =>
      rw [bind_bad h] at A9
      exact A9
    | exc c x t' =>
      rw [bind_exc h] at A9
      cases fl with
      | false =>
        intro σ' C dd ω' H' wx kp sr hE
        have e : φ = G.map (·.1) := List.append_nil _
        rw [e] at hE
        exact A9 C dd ω' H' wx kp sr hE
      | true =>
        have A9 : Aft Γ ω (G.map (·.1)) H (if noLamO fs.length x = true then .exc c x t' else .bad) (QV Γ (G.map (·.1)) Q) E := A9
        by_cases hx : noLamO fs.length x = true
        · rw [if_pos hx] at A9
          intro σ' C dd ω' H' wx kp sr hE
          have q := errV_noLam hx hE
          rw [htk] at q
          exact A9 C dd ω' H' wx kp sr q
        · rw [if_neg hx] at A9
          exact A9.elim
    | ok q t' =>
      rw [bind_ok h] at A9
      cases q with
      | bk ρ' => exact A9.elim
      | ct ρ' => exact A9.elim
      | nx ρ' =>
        have A9 : Aft Γ ω (G.map (·.1)) H (.ok .non t') (QV Γ (G.map (·.1)) Q) E := by
          cases fl <;> exact A9
        exact fun σ' ω' H' r _ _ => A9 ω' H' r.rel.wx r.rel.keep r.rel.st _ .non
      | rt d =>
        cases fl with
        | false =>
          intro v ω' H' wx kp sr hv
          have e : φ = G.map (·.1) := List.append_nil _
          rw [e] at hv
          exact A9 ω' H' wx kp sr v hv
        | true =>
          have A9 : Aft Γ ω (G.map (·.1)) H (if noLam fs.length d = true then .ok d t' else .bad) (QV Γ (G.map (·.1)) Q) E := A9
          by_cases hx : noLam fs.length d = true
          · rw [if_pos hx] at A9
            intro v ω' H' wx kp sr hv
            have q := noLam_dv hx hv
            rw [htk] at q
            exact A9 ω' H' wx kp sr v q
          · rw [if_neg hx] at A9
            exact A9.elim
/-- all defs, at every depth -/
theorem proms {Γ : Gam} {P : Prog} {n : Nat} {w : World} {base : Heap} (gok : GOk Γ P) (tb : ∀ q c Pa, Γ.tb q = some (c, Pa) → LamX.TabB base Γ.mg c Pa)
    (D : ∀ f I, Γ.fi f = some I → DefC Γ P n f I ∨ ∀ k, FnG Γ.prog w Γ.K Γ.mg base (k + 1 + 4) I.fa I.fd I.ps (spF Γ ((run P n (k + 1)).1 f))) :
    ∀ k, ∀ j, j ≤ k → ∀ f I, Γ.fi f = some I → FnG Γ.prog w Γ.K Γ.mg base (j + 4) I.fa I.fd I.ps (spF Γ ((run P n j).1 f)) := by
  intro k
  induction k with
  | zero =>
    intro j hj f I hI
    obtain rfl : j = 0 := by omega
    refine ⟨fun G vs H Q E h => ?_, fun A outer s H args us vs Q E G _ _ _ _ _ _ h => ?_⟩
    · obtain ⟨_, _, _, _, _, _, _, z⟩ := h
      exact z.elim
    · obtain ⟨_, _, _, _, _, _, _, z⟩ := h
      exact z.elim
  | succ k ih =>
    intro j hj f I hI
    by_cases h : j ≤ k
    · exact ih j h f I hI
    · obtain rfl : j = k + 1 := by omega
      rcases D f I hI with d | d
      · exact fnG_code d gok ih tb
      · exact d k
end Pv
end

section
set_option Elab.async false
set_option linter.all false
set_option maxRecDepth 100000
set_option maxHeartbeats 4000000
/-! the source of draws -/
namespace Pv
open PySem PySem.Spec PyProof.Rows L2
abbrev drK (l c : Addr) (s : DS) : List (Key × V) := [(.inr "large", .ref l), (.inr "cells", .ref c), (.inr "rest", .int s.rest), (.inr "turn", .int s.turn)]
section
variable {Γ : Gam} {φ : List Fr1} {G : List (Fr1 × L2.St)} {fs : List Env1} {ω0 ω : Wd} {H0 H : Hp} {σ : L2.St} {ρ : Env1} {t : S0} {a l c : Addr} {s s' : DS}
theorem drK_large : valV (drK l c s) (.inr "large") = some (.ref l) := rfl
theorem drK_cells : valV (drK l c s) (.inr "cells") = some (.ref c) := rfl
theorem drK_rest : valV (drK l c s) (.inr "rest") = some (.int s.rest) := rfl
theorem drK_turn : valV (drK l c s) (.inr "turn") = some (.int s.turn) := rfl
theorem putK_rest {z : Int} : putK (drK l c s) (.inr "rest") (.int z) = drK l c { s with rest := z } := rfl
theorem putK_turn {z : Int} : putK (drK l c s) (.inr "turn") (.int z) = drK l c { s with turn := z } := rfl
/-- a slot that holds the source -/
theorem dr_of {i : Nat} (R : SR Γ φ G fs ω0 H0 σ ρ ω t H) (e : ρ[i]? = some (.pl .draw)) : ∃ a l c s, σ[i]? = some (some (.ref a)) ∧ ω = some (a, l, c) ∧ t = some s ∧ H a = some (.dK (drK l c s)) ∧ H l = some (.lst (s.large.map V.int)) ∧ SqF H c (s.cells.map V.int) := by
  obtain ⟨v, hv, dv⟩ := R.rel.slot i _ e
  cases dv with
  | @draw a l c hω =>
    have d := R.st.ds
    subst hω
    cases t with
    | none => exact d.elim
    | some s =>
      obtain ⟨h1, h2, h3⟩ := d
      exact ⟨a, l, c, s, hv, rfl, rfl, h1, h2, h3⟩
theorem st_upd {b : Addr} {o u : HO} (r : StRel Γ (some (a, l, c)) (some s) H) (hb : H b = some u) (hu : imm u = false) (ht : ∀ ps, u ≠ .tbl ps)
    (h1 : upd H b o a = some (.dK (drK l c s'))) (h2 : upd H b o l = some (.lst (s'.large.map V.int))) (hc : s'.cells = s.cells) : StRel Γ (some (a, l, c)) (some s') (upd H b o) := by
  have k : ∀ x w, H x = some w → imm w = true → upd H b o x = some w := fun x w e i => by
    rw [upd_ne (fun z => by
      rw [z, hb] at e
      cases e
      rw [hu] at i
      cases i)]
    exact e
  refine ⟨fun p hp => ?_, h1, h2, ?_⟩
  · obtain ⟨ps, g1, g2, g3⟩ := r.tabs p hp
    refine ⟨ps, ?_, g2, fun pos cv hcv => ?_⟩
    · rw [upd_ne (fun z => by
        rw [z, hb] at g1
        exact ht ps (Option.some.inj g1))]
      exact g1
    · obtain ⟨c', e1, e2⟩ := g3 pos cv hcv
      exact ⟨c', e1, k _ _ e2 rfl⟩
  · obtain ⟨_, _, oc, h3⟩ := r.ds
    rw [hc]
    exact ⟨oc, k _ _ h3 rfl⟩
theorem keep_in {b : Addr} {o u : HO} (hb : H b = some u) (ht : ∀ ps, u ≠ .tbl ps) (hw : inW ω b) : Keep ω H (upd H b o) := by
  refine ⟨fun x w e n hx => ?_, fun x ps e => ⟨#[], ?_⟩⟩
  · rw [upd_ne (fun z => hx (by rw [z]; exact hw))]
    exact e
  · rw [upd_ne (fun z => by
      rw [z, hb] at e
      exact ht ps (Option.some.inj e)), e]
    simp
end
section
variable {Z : Sn} {e : Expr} {m : CE} {pos p p2 p3 : Pos} {x : Str} {i j : Nat}
theorem dget_run {X : Cx} {W : WX} {G : List (Fr1 × L2.St)} {φ : List Fr1} {fs : List Env1} {key : Str} (B : SX Z X W G φ fs) (n : Nm Z i x) : PE X (.Subscript (.Name x p) (.Constant (.str key) j p2) pos) (tDGet (tVar i) (tC (.str key))) :=
  pe_dget (by have := B.units; omega) (pe_var (i := i) (by rw [B.eN]; exact n.at_) (by rw [B.eS]; exact n.vis) n.d1 n.d2) pe_str (fun _ _ => rfl)
theorem se_rest (n : Nm Z i x) : SE Z (.Subscript (.Name x p) (.Constant (.str "rest") j p2) pos) (eDr true i) := fun X W G φ fs B => pe_imp (dget_run B n) fun σ H Q h => by
  obtain ⟨ω0, H0, ρ, ω, t, R, A⟩ := h
  unfold eDr at A
  cases e : ρ[i]? with
  | none =>
    rw [e] at A
    exact A.elim
  | some sl =>
    rw [e] at A
    cases sl with
    | pl d =>
      cases d with
      | draw =>
        obtain ⟨a, l, c, s, h1, rfl, rfl, h2, h3, h4⟩ := dr_of R e
        exact ⟨_, h1, a, _, rfl, .inl ⟨_, .inr "rest", .inl h2, rfl, drK_rest.symm⟩, Aft.now (a := D.int s.rest) A R.st _ (.int _)⟩
      | _ => exact A.elim
    | _ => exact A.elim
theorem se_turn (n : Nm Z i x) : SE Z (.Subscript (.Name x p) (.Constant (.str "turn") j p2) pos) (eDr false i) := fun X W G φ fs B => pe_imp (dget_run B n) fun σ H Q h => by
  obtain ⟨ω0, H0, ρ, ω, t, R, A⟩ := h
  unfold eDr at A
  cases e : ρ[i]? with
  | none =>
    rw [e] at A
    exact A.elim
  | some sl =>
    rw [e] at A
    cases sl with
    | pl d =>
      cases d with
      | draw =>
        obtain ⟨a, l, c, s, h1, rfl, rfl, h2, h3, h4⟩ := dr_of R e
        exact ⟨_, h1, a, _, rfl, .inl ⟨_, .inr "turn", .inl h2, rfl, drK_turn.symm⟩, Aft.now (a := D.int s.turn) A R.st _ (.int _)⟩
      | _ => exact A.elim
    | _ => exact A.elim
theorem se_cells (n : Nm Z i x) : SE Z (.Subscript (.Name x p) (.Constant (.str "cells") j p2) pos) (eCells i) := fun X W G φ fs B => pe_imp (dget_run B n) fun σ H Q h => by
  obtain ⟨ω0, H0, ρ, ω, t, R, A⟩ := h
  unfold eCells at A
  cases e : ρ[i]? with
  | none =>
    rw [e] at A
    exact A.elim
  | some sl =>
    rw [e] at A
    cases sl with
    | pl d =>
      cases d with
      | draw =>
        obtain ⟨a, l, c, s, h1, rfl, rfl, h2, h3, h4⟩ := dr_of R e
        exact ⟨_, h1, a, _, rfl, .inl ⟨_, .inr "cells", .inl h2, rfl, drK_cells.symm⟩, Aft.now (a := D.lst (s.cells.map .int)) A R.st _ (.lst h4 (ints_dv _))⟩
      | _ => exact A.elim
    | _ => exact A.elim
theorem ints_dp {K : PySem.W.Frag} {H : Hp} (ns : List Int) : DpAll K H (ns.map V.int) (ns.map PyData.int) := by
  induction ns with
  | nil => exact .nil
  | cons n ns ih => exact .cons (.int n) ih
theorem ints_lay (ns : List Int) : PyData.canLayAll0 (ns.map PyData.int) = true := by
  induction ns with
  | nil => rfl
  | cons n ns ih =>
    show (PyData.canLay0 (.int n) && PyData.canLayAll0 (ns.map PyData.int)) = true
    rw [ih]
    rfl
theorem ints_depth (ns : List Int) : PyData.depthAll (ns.map PyData.int) = 0 := by
  induction ns with
  | nil => rfl
  | cons n ns ih =>
    show max (PyData.depth (.int n)) (PyData.depthAll (ns.map PyData.int)) = 0
    rw [ih]
    rfl
theorem ints_shaped (ns : List Int) : SeqAt.shaped (.list (ns.map PyData.int)) = true := by
  show (PyData.canLayAll0 (ns.map PyData.int) && decide (PyData.depthAll (ns.map PyData.int) + 1 ≤ 64)) = true
  rw [ints_lay, ints_depth]
  rfl
/-- draw['large'] != [] -/
theorem large_run {X : Cx} {W : WX} {G : List (Fr1 × L2.St)} {φ : List Fr1} {fs : List Env1} {σ : L2.St} {H : Hp} {Q : VK} (B : SX Z X W G φ fs) (h : tV Z.Γ φ G fs W (eLargeNe i (Z.c fs)) σ H Q) : tOp (rNeD X.K) (tDGet (tVar i) (tC (.str "large"))) (tLst tNil) σ H Q := by
  obtain ⟨ω0, H0, ρ, ω, t, R, A⟩ := h
  unfold eLargeNe at A
  cases e : ρ[i]? with
  | none =>
    rw [e] at A
    exact A.elim
  | some sl =>
    rw [e] at A
    cases sl with
    | pl d =>
      cases d with
      | draw =>
        obtain ⟨a, l, c, s, h1, rfl, rfl, h2, h3, h4⟩ := dr_of R e
        refine ⟨_, h1, a, _, rfl, .inl ⟨_, .inr "large", .inl h2, rfl, drK_large.symm⟩, Nat.zero_le _, fun q hq => ?_⟩
        have A : Aft Z.Γ (some (a, l, c)) φ H (.ok (D.bl (!s.large.isEmpty)) (some s)) (QV Z.Γ φ Q) fun c d H' => W c d σ H' := A
        refine ⟨.list (s.large.map .int), .list [], .lst (.inl (.of (by rw [upd_ne (ne_of_none h3 hq)]; exact h3))) (ints_dp _), .lst (.inl (.of upd_same)) .nil, ints_shaped _, rfl, ?_⟩
        have e9 : (!PyData.eqv (.list (s.large.map PyData.int)) (.list [])) = !s.large.isEmpty := by
          cases s.large <;> rfl
        rw [e9]
        exact A _ _ (.refl _ _) (keep_new hq) (R.st.new hq) _ (.bl _)
      | _ => exact A.elim
    | _ => exact A.elim
theorem se_largeNe (n : Nm Z i x) (hm : behindInMarks .NotEq (.List [] p3) = false) {q : Pos} : SE Z (.Compare (.Subscript (.Name x p) (.Constant (.str "large") j p2) pos) [.NotEq] [.List [] p3] q) (eLargeNe i) := fun X W G φ fs B =>
  pe_imp (pe_cmpR (op_neD B.units) (dget_run B n) (pe_lst pa_nil) hm) fun σ H Q h => large_run B h
theorem st_largeNe (n : Nm Z i x) (hm : behindInMarks .NotEq (.List [] p3) = false) {q : Pos} : ST Z (.Compare (.Subscript (.Name x p) (.Constant (.str "large") j p2) pos) [.NotEq] [.List [] p3] q) (eLargeNe i) := fun X W G φ fs B =>
  pt_imp (pt_cmpR (op_neD B.units) (dget_run B n) (pe_lst pa_nil) hm) fun σ H Q h => large_run B (tv_of_tbl h)
end
end Pv
end

section
set_option Elab.async false
set_option linter.all false
set_option maxRecDepth 100000
set_option maxHeartbeats 4000000
/-! the source of draws: written, made -/
namespace Pv
open PySem PySem.Spec PyProof.Rows L2
section
variable {Z : Sn} {e : Expr} {m : CE} {pos p p2 p3 p4 : Pos} {x : Str} {i j j2 : Nat}
theorem se_pop {apos : Pos} (n : Nm Z i x) (hb : ∀ env, attributeBase (.Subscript (.Name x p) (.Constant (.str "large") j p2) p3) "pop" env (eval (.Subscript (.Name x p) (.Constant (.str "large") j p2) p3) env) = eval (.Subscript (.Name x p) (.Constant (.str "large") j p2) p3) env)
    (hfew : ∀ env, ((backTo pos (starEach [.Constant (.int 0) j2 p4] env)).all (fun x => !x.1) && (backToKw pos (keywordEach [] env)).all (fun x => x.1.isSome) && decide ([Expr.Constant (.int 0) j2 p4].length + ([] : List Keyword).length + (if ([] : List Keyword).isEmpty then 0 else 1) < 30)) = true)
    (hl : (apos.endLine == pos.line) = true) (hs : ∀ env, starEach [.Constant (.int 0) j2 p4] env = (false, eval (.Constant (.int 0) j2 p4) env) :: starEach [] env) (hpl : ∀ env, (backTo pos (starEach [] env)).any (·.1) = false) (hs1 : ∀ env, starEach [.Constant (.int 0) j2 p4] env = [(false, eval (.Constant (.int 0) j2 p4) env)]) :
    SE Z (.Call (.Attribute (.Subscript (.Name x p) (.Constant (.str "large") j p2) p3) "pop" apos) [.Constant (.int 0) j2 p4] [] pos) (ePop i) := fun X W G φ fs B =>
  pe_imp (pe_bm F.plainAttrs_list F.slot_list_pop F.type_list_pop (mt_popAt (X := X)) (dget_run B n) (pa_cons pe_int pa_nil (hs1 X.env)) (hb X.env) (hfew X.env) hl (hs X.env) (hpl X.env)) fun σ H Q h => by
    obtain ⟨ω0, H0, ρ, ω, t, R, A⟩ := h
    unfold ePop at A
    cases e : ρ[i]? with
    | none =>
      rw [e] at A
      exact A.elim
    | some sl =>
      rw [e] at A
      cases sl with
      | pl d =>
        cases d with
        | draw =>
          obtain ⟨a, l, c, s, h1, rfl, rfl, h2, h3, h4⟩ := dr_of R e
          have A : Aft Z.Γ (some (a, l, c)) φ H (match s.large with | x :: r => .ok (.int x) (some { s with large := r }) | [] => .bad) (QV Z.Γ φ Q) fun c d H' => W c d σ H' := A
          refine ⟨_, h1, a, _, rfl, .inl ⟨_, .inr "large", .inl h2, rfl, drK_large.symm⟩, .inl ⟨rfl, _, .inl (.of h3)⟩, ?_⟩
          cases hl : s.large with
          | nil =>
            rw [hl] at A
            exact A.elim
          | cons y r =>
            rw [hl] at A
            have h3' := h3
            rw [hl] at h3'
            refine ⟨l, _, 0, 0, .int y, rfl, rfl, h3', by decide, by decide, by simp [seqIndex?], rfl, ?_⟩
            have ne : a ≠ l := fun z => by
              rw [z, h3] at h2
              cases h2
            refine A _ _ (.refl _ _) (keep_in h3 (fun _ z => by cases z) ⟨a, l, c, rfl, .inr rfl⟩) ?_ _ (.int _)
            exact st_upd (s' := { s with large := r }) R.st h3 rfl (fun _ z => by cases z) (by rw [upd_ne ne]; exact h2) upd_same rfl
        | _ => exact A.elim
      | _ => exact A.elim
theorem dput_run {X : Cx} {W : WX} {G : List (Fr1 × L2.St)} {φ : List Fr1} {fs : List Env1} {key : Str} (B : SX Z X W G φ fs) (n : Nm Z i x) (h : SE Z e m) (hs : ∀ env, swapsWith e (some (.Subscript (.Name x p) (.Constant (.str key) j p2) p3)) pos.line env = pure false) :
    PS X (.Assign [.Subscript (.Name x p) (.Constant (.str key) j p2) p3] e pos) (sDPut (tVar i) (tC (.str key)) (tV Z.Γ φ G fs W (m (Z.c fs)))) :=
  ps_dput (by have := B.units; omega) (pe_var (i := i) (by rw [B.eN]; exact n.at_) (by rw [B.eS]; exact n.vis) n.d1 n.d2) pe_str (h X W G φ fs B) (hs X.env)
theorem ss_rest (n : Nm Z i x) (h : SE Z e m) (hs : ∀ env, swapsWith e (some (.Subscript (.Name x p) (.Constant (.str "rest") j p2) p3)) pos.line env = pure false) :
    SS Z (.Assign [.Subscript (.Name x p) (.Constant (.str "rest") j p2) p3] e pos) (sDr true i m) := fun X W G φ fs B => ps_imp (dput_run B.toSX n h hs) fun D σ H q => by
  obtain ⟨ω0, H0, ρ, ω, t, R, A⟩ := q
  refine tV_bindS R A fun d v ω1 t1 H1 R1 w1 k1 hv A1 => ?_
  cases hv <;> try exact A1.elim
  rename_i z
  cases e : ρ[i]? with
  | none =>
    rw [e] at A1
    exact A1.elim
  | some sl =>
    rw [e] at A1
    cases sl with
    | pl d =>
      cases d with
      | draw =>
        obtain ⟨a, l, c, s, h1, rfl, rfl, h2, h3, h4⟩ := dr_of R1 e
        have A1 : AftS Z.Γ φ G fs ω0 H0 (some (a, l, c)) H1 (.ok (.nx ρ) (some { s with rest := z })) D W := A1
        have ne : l ≠ a := fun z => by
          rw [z, h2] at h3
          cases h3
        have kp : Keep (some (a, l, c)) H1 (upd H1 a (.dK (drK l c { s with rest := z }))) := keep_in h2 (fun _ z => by cases z) ⟨a, l, c, rfl, .inl rfl⟩
        have sr : StRel Z.Γ (some (a, l, c)) (some { s with rest := z }) (upd H1 a (.dK (drK l c { s with rest := z }))) := st_upd (s' := { s with rest := z }) R1.st h2 rfl (fun _ z => by cases z) upd_same (by rw [upd_ne ne]; exact h3) rfl
        exact ⟨_, h1, a, _, rfl, .inl ⟨_, .inr "rest", h2, rfl, (by show 4 < sizeLine; rw [sizeLine_eq]; decide), rfl⟩, A1 σ _ _ (R1.step (.refl _ _) kp sr) (kp.stay R1.st) (.inr rfl)⟩
      | _ => exact A1.elim
    | _ => exact A1.elim
theorem ss_turn (n : Nm Z i x) (h : SE Z e m) (hs : ∀ env, swapsWith e (some (.Subscript (.Name x p) (.Constant (.str "turn") j p2) p3)) pos.line env = pure false) :
    SS Z (.Assign [.Subscript (.Name x p) (.Constant (.str "turn") j p2) p3] e pos) (sDr false i m) := fun X W G φ fs B => ps_imp (dput_run B.toSX n h hs) fun D σ H q => by
  obtain ⟨ω0, H0, ρ, ω, t, R, A⟩ := q
  refine tV_bindS R A fun d v ω1 t1 H1 R1 w1 k1 hv A1 => ?_
  cases hv <;> try exact A1.elim
  rename_i z
  cases e : ρ[i]? with
  | none =>
    rw [e] at A1
    exact A1.elim
  | some sl =>
    rw [e] at A1
    cases sl with
    | pl d =>
      cases d with
      | draw =>
        obtain ⟨a, l, c, s, h1, rfl, rfl, h2, h3, h4⟩ := dr_of R1 e
        have A1 : AftS Z.Γ φ G fs ω0 H0 (some (a, l, c)) H1 (.ok (.nx ρ) (some { s with turn := z })) D W := A1
        have ne : l ≠ a := fun z => by
          rw [z, h2] at h3
          cases h3
        have kp : Keep (some (a, l, c)) H1 (upd H1 a (.dK (drK l c { s with turn := z }))) := keep_in h2 (fun _ z => by cases z) ⟨a, l, c, rfl, .inl rfl⟩
        have sr : StRel Z.Γ (some (a, l, c)) (some { s with turn := z }) (upd H1 a (.dK (drK l c { s with turn := z }))) := st_upd (s' := { s with turn := z }) R1.st h2 rfl (fun _ z => by cases z) upd_same (by rw [upd_ne ne]; exact h3) rfl
        exact ⟨_, h1, a, _, rfl, .inl ⟨_, .inr "turn", h2, rfl, (by show 4 < sizeLine; rw [sizeLine_eq]; decide), rfl⟩, A1 σ _ _ (R1.step (.refl _ _) kp sr) (kp.stay R1.st) (.inr rfl)⟩
      | _ => exact A1.elim
    | _ => exact A1.elim
theorem ints_of {xs : List D} {ns : List Int} {vs : List V} {Γ : Gam} {φ : List Fr1} {ω : Wd} {H : Hp} (h : ints? xs = some ns) (k : DvL Γ ω φ H xs vs) : vs = ns.map V.int := by
  induction xs generalizing ns vs with
  | nil =>
    cases h
    cases k
    rfl
  | cons x xs ih =>
    cases k with
    | cons k1 k2 =>
      cases x <;> try cases h
      have h : (ints? xs).map (_ :: ·) = some ns := h
      cases e : ints? xs with
      | none =>
        rw [e] at h
        cases h
      | some zs =>
        rw [e] at h
        cases h
        cases k1
        rw [ih e k2]
        rfl
theorem ss_begun {pv q1 q2 q3 q4 q5 q6 q7 : Pos} {k1 k2 k3 k4 k5 k6 : Nat} (n : Nm Z i x) (h : SE Z e m) :
    SS Z (.Return (some (.Dict [some (.Constant (.str "large") k1 q1), some (.Constant (.str "cells") k2 q2), some (.Constant (.str "rest") k3 q3), some (.Constant (.str "turn") k4 q4)] [.Name x pv, e, .Constant (.int 0) k5 q5, .Constant (.int 0) k6 q6] q7)) pos) (sBegun i m) := fun X W G φ fs B =>
  ps_imp (ps_ret (pe_disp (pps_cons pe_str (pe_var (i := i) (by rw [B.eN]; exact n.at_) (by rw [B.eS]; exact n.vis) n.d1 n.d2) (pps_cons pe_str (h X W G φ fs B.toSX) (pps_cons pe_str pe_int (pps_cons pe_str pe_int pps_nil)))) rfl rfl (by simp) (by simp))) fun D σ H q => by
    obtain ⟨ω0, H0, ρ, ω, t, R, A⟩ := q
    intro q hq
    have R0 := R.step (.refl ω H) (keep_new (o := .dK []) hq) (R.st.new hq)
    have n0 := R.st.notIn hq
    have A0 := A.step (stay_new (o := .dK []) hq) (ω1 := ω) (.inr rfl)
    unfold sBegun at A0
    -- the own list must be there
    cases e : ρ[i]? with
    | none =>
      rw [e] at A0
      exact A0.elim
    | some sl =>
      cases sl with
      | own xs =>
        rw [e] at A0
        obtain ⟨l, us, g1, g2, g3, g4, g5⟩ := R0.rel.own i xs e
        refine ⟨_, g1, ?_⟩
        refine tV_bindS R0 A0 fun y v ω1 t1 H1 R1 w1 kp1 hv A1 => ?_
        cases y <;> try exact A1.elim
        rename_i ys
        cases t1 with
        | some _ => exact A1.elim
        | none =>
          have A1 : AftS Z.Γ φ G fs ω0 H0 ω1 H1 (match ints? xs, ints? ys with
            | some a, some b => .ok (.rt .draw) (some ⟨a, b, 0, 0⟩)
            | _, _ => .bad) D W := A1
          cases e1 : ints? xs with
          | none =>
            rw [e1] at A1
            exact A1.elim
          | some ai =>
            cases e2 : ints? ys with
            | none =>
              rw [e1, e2] at A1
              exact A1.elim
            | some bi =>
              rw [e1, e2] at A1
              obtain ⟨l', us', f1, f2, f3, f4, f5⟩ := R1.rel.own i xs e
              rw [g1] at f1
              cases f1
              cases hv with
              | @lst c vs _ hc hd =>
                have hq1 : H1 q = some (.dK []) := kp1.obj q _ upd_same (fun _ z => by cases z) n0
                have q0 : H0 q = none := Classical.byContradiction fun z => keep_there R.rel.keep R.rel.wx R.st z hq
                have hω1 : ω1 = none := by
                  have d := R1.st.ds
                  cases ω1 with
                  | none => rfl
                  | some w => exact d.elim
                subst hω1
                have hω0 : ω0 = none := by
                  rcases R1.rel.wx with z | ⟨z, _⟩
                  · exact z.symm
                  · exact z
                subst hω0
                have nl : l ≠ q := fun z => by
                  rw [z, hq1] at f2
                  cases f2
                refine ⟨hq1, [(.inr "large", .ref l), (.inr "cells", .ref c), (.inr "rest", .int 0), (.inr "turn", .int 0)], rfl, by simp, ?_⟩
                have st : Stay H1 (upd H1 q (.dK (drK l c ⟨ai, bi, 0, 0⟩))) := fun b u e i => by
                  rw [upd_ne (fun z => by
                    rw [z, hq1] at e
                    cases e
                    cases i)]
                  exact e
                refine A1 (.ref q) (some (q, l, c)) (upd H1 q (.dK (drK l c ⟨ai, bi, 0, 0⟩))) (.inr ⟨rfl, fun b ⟨a', l', c', e, hb⟩ => ?_⟩) (keep_own R1.rel.keep q0) ⟨?_, upd_same, ?_, ?_⟩ (.draw rfl)
                · cases e
                  rcases hb with rfl | rfl
                  · exact q0
                  · exact f4
                · intro pr hp
                  obtain ⟨ps, h1, h2, h3⟩ := R1.st.tabs pr hp
                  refine ⟨ps, ?_, h2, fun pos cv hcv => ?_⟩
                  · rw [upd_ne (fun z => by
                      rw [z, hq1] at h1
                      cases h1)]
                    exact h1
                  · obtain ⟨c', e3, e4⟩ := h3 pos cv hcv
                    exact ⟨c', e3, st _ _ e4 rfl⟩
                · rw [upd_ne nl, f2, ints_of e1 f3]
                · obtain ⟨o, hc⟩ := hc
                  rw [ints_of e2 hd] at hc
                  exact ⟨o, st _ _ hc rfl⟩
      | _ =>
        rw [e] at A0
        exact A0.elim
end
end Pv
end

section
set_option Elab.async false
set_option linter.all false
set_option maxRecDepth 100000
set_option maxHeartbeats 4000000
/-! the end: the law's def called at the top, its promise one that knows the frames with lambdas -/
namespace Pv
open PySem PySem.Spec PyProof.Rows L2 LamX
/-- what is told at the top: the empty tables cs, the script at a (if it is none of the written part's own) -/
def topH (cs : List Addr) (own : Bool) (a : Addr) (so : Obj) (xs : List V) : Hp := fun b => if b ∈ cs then some (.tbl #[]) else if b = a ∧ own = false then some (.frz so (.lst xs)) else none
section
variable {P : Program} {w : World} {K : PySem.W.Frag} {mg mb : Str → Option Value} {k : Nat} {fa a : Addr} {cs : List (Addr × Addr)} {fd : FuncData} {x : Str} {sp : SpG} {s : Shared} {us : List Value} {ns : List Int}
theorem end_call (KX : K.In s.heap) (hG : s.heap.Ns mainGlobals mg) (hB : s.heap.Ns builtinsNs mb) (hbb : ∀ y : Str, y ≠ "__name__" → mb y = bootBuiltins y) (lim : s.heap.NoLimit) (gens : s.gens = #[])
    (tabs : ∀ p ∈ cs, s.heap.get? p.2 = some { cls := .none, data := .fields #[] }) (notK : ∀ p ∈ cs, K.lookup p.2 = none) (codes : ∀ p ∈ cs, PySem.W.CodeHd s.heap p.1 p.2)
    (bmod : ∃ (bm : Addr) (ob : Obj), mg "__builtins__" = some (.ref bm) ∧ bm ≠ builtinsNs ∧ s.heap.get? bm = some ob ∧ ob.cls = .type "module" ∧ ob.dict = some builtinsNs ∧ ob.data = .plain)
    (script : s.heap.get? a = some { cls := .type "list", data := .seq us.toArray }) (hints : IntsAre us ns) (len : ns.length ≤ sizeLine) (room : Room k callerA)
    (F : ∀ base : Heap, K.In base → base.Ns mainGlobals mg → (∀ p ∈ cs, TabB base mg p.1 p.2) → FnG P w K mg base k fa fd [x] sp) (bind : ∀ (s : Shared) (u : Value), BindsTo s fd ⟨[u], []⟩ [(x, u)])
    (hsp : ∀ H : Hp, (∀ p ∈ cs, H p.2 = some (.tbl #[])) → Scr K H a (ns.map V.int) → sp [] [.ref a] H (fun v _ => v = .bl true) fun _ _ _ => False) :
    codeAny (model P w) callerA (.call (.ref fa) ⟨[.ref a], []⟩) (fun r s' => r = .ok (.ret (.bool true)) ∧ OldK s.heap s'.heap ∧ s'.os = s.os ∧ AllBare s'.gens) s := by
  have rel := vals_ints hints
  have nat := hints.length
  let T := cs.map (·.2)
  let own := (K.lookup a).isSome
  let H := topH T own a { cls := .type "list", data := .seq us.toArray } (ns.map V.int)
  have inT : ∀ p ∈ cs, p.2 ∈ T := fun p hp => List.mem_map.mpr ⟨p, hp, rfl⟩
  have objT : ∀ b, b ∈ T → s.heap.get? b = some { cls := .none, data := .fields #[] } := fun b hb => by
    obtain ⟨p, hp, rfl⟩ := List.mem_map.mp hb
    exact tabs p hp
  have hT : ∀ b, b ∈ T → H b = some (.tbl #[]) := fun b hb => if_pos hb
  have aT : a ∉ T := fun z => by
    have q := objT a z
    rw [script] at q
    injection q with q
    injection q with _ _ q
    cases q
  have told : ∀ b u, H b = some u → (b ∈ T ∧ u = .tbl #[]) ∨ (b = a ∧ own = false ∧ u = .frz { cls := .type "list", data := .seq us.toArray } (.lst (ns.map V.int))) := fun b u e => by
    by_cases hb : b ∈ T
    · rw [hT b hb] at e
      cases e
      exact .inl ⟨hb, rfl⟩
    · have e : (if b = a ∧ own = false then some (HO.frz { cls := .type "list", data := .seq us.toArray } (.lst (ns.map V.int))) else none) = some u := by
        rw [← e]
        exact (if_neg hb).symm
      split at e
      · rename_i q
        cases e
        exact .inr ⟨q.1, q.2, rfl⟩
      · cases e
  have sqS : SqL K H a (ns.map V.int) ∧ Scr K H a (ns.map V.int) := by
    cases ho : K.lookup a with
    | none =>
      have e : H a = some (.frz { cls := .type "list", data := .seq us.toArray } (.lst (ns.map V.int))) := by
        show (if a ∈ T then _ else _) = _
        rw [if_neg aT, if_pos ⟨rfl, by show (K.lookup a).isSome = false; rw [ho]; rfl⟩]
      exact ⟨.inl (.inr ⟨_, e⟩), .inl ⟨_, e⟩⟩
    | some o =>
      have q := KX a o ho
      rw [script] at q
      cases q
      have third : ∀ H' : Hp, SqL K H' a (ns.map V.int) := fun H' => .inr ⟨_, us.toArray, _, ho, rfl, rfl, rfl, by rw [List.size_toArray, nat]; exact len, by simpa using rel⟩
      exact ⟨third H, .inr third⟩
  have hok : HOk P w H s.heap := fun b u e => by
    rcases told b u e with ⟨hb, rfl⟩ | ⟨rfl, _, rfl⟩
    · exact objT b hb
    · exact ⟨script, by rw [List.length_map]; exact len, us, _, rel, script⟩
  -- what is neither a table nor a list is not told
  have away : ∀ b o, s.heap.get? b = some o → o.data ≠ .fields #[] → (∀ vs n, o.data ≠ .seq vs n) → H b = none := fun b o e n1 n2 => by
    cases q : H b with
    | none => rfl
    | some u =>
      rcases told b u q with ⟨hb, _⟩ | ⟨rfl, _, _⟩
      · rw [objT b hb] at e
        cases e
        exact absurd rfl n1
      · rw [script] at e
        cases e
        exact absurd rfl (n2 _ _)
  have hid : ∀ b o, s.heap.get? b = some o → H b = none → (hidT s.heap H).get? b = some o := fun b o e n => hidT_get e n
  have hns : ∀ {b : Addr} {m : Str → Option Value}, s.heap.Ns b m → (hidT s.heap H).Ns b m := fun {b m} n => by
    obtain ⟨o, es, ep, e, d, r⟩ := n
    exact ⟨o, es, ep, hid b o e (away b o e (by rw [d]; exact fun z => by cases z) (by rw [d]; exact fun _ _ z => by cases z)), d, r⟩
  have hK : K.In (hidT s.heap H) := fun b o e => hid b o (KX b o e) (by
    cases q : H b with
    | none => rfl
    | some u =>
      rcases told b u q with ⟨hb, _⟩ | ⟨rfl, ho, _⟩
      · obtain ⟨p, hp, rfl⟩ := List.mem_map.mp hb
        rw [notK p hp] at e
        cases e
      · have ho : (K.lookup b).isSome = false := ho
        rw [e] at ho
        cases ho)
  have hM : Mod K mg (hidT s.heap H) := ⟨hK, hns hG, ⟨mb, hns hB, hbb⟩, by obtain ⟨m, h1, h2⟩ := lim; exact ⟨m, hns h1, h2⟩⟩
  have hTB : ∀ p ∈ cs, TabB (hidT s.heap H) mg p.1 p.2 := fun p hp => by
    refine ⟨?_, ?_, fun z => ?_⟩
    · obtain ⟨o, vs, file, tf, flags, tg, inF, text, tt, c1, c2, c3, c4, c5⟩ := codes p hp
      refine ⟨o, vs, file, tf, flags, tg, inF, text, tt, hid _ o c1 (away _ o c1 (fun z => ?_) fun vs' n z => ?_), c2, c3, c4, c5⟩
      · rw [c3] at z
        cases z
        simp at c4
      · rw [c3] at z
        cases z
    · obtain ⟨bm, ob, b1, b2, b3, b4, b5, b6⟩ := bmod
      refine ⟨bm, ob, b1, b2, fun z => ?_, fun z => ?_, hid _ ob b3 (away _ ob b3 (by rw [b6]; exact fun z => by cases z) (by rw [b6]; exact fun _ _ z => by cases z)), b4, b5, b6⟩
      · obtain ⟨o, es, ep, e, d, _⟩ := hG
        rw [z, e] at b3
        cases b3
        rw [d] at b6
        cases b6
      · rw [z, tabs p hp] at b3
        cases b3
        cases b6
    · obtain ⟨o, es, ep, e, d, _⟩ := hG
      rw [z, tabs p hp] at e
      cases e
      cases d
  have e0 : Env0 P w K mg (hidT s.heap H) callerA [] s H := ⟨rfl, hM, fun b o e => of_hidT e, Nat.le_of_eq (hidT_size _ _), trivial, fun b hb => (nomatch hb), hok, .of_eq gens⟩
  refine codeAny_mono ((F _ hK (hns hG) hTB).run callerA [] s H ⟨[.ref a], []⟩ [.ref a] [.ref a] _ _ [] room rfl e0 (fun p hp => (nomatch hp)) (bind s (.ref a)) (.cons rfl .nil) (hsp H (fun p hp => hT _ (inT p hp)) sqS.2)) fun r s' h => ?_
  cases r with
  | error e =>
    obtain ⟨_, _, _, _, _, _, _, _, _, _, _, _, z⟩ := h
    exact z.elim
  | ok fl =>
    cases fl with
    | next => exact h.elim
    | brk => exact h.elim
    | cont => exact h.elim
    | ret u =>
      obtain ⟨v, H', os, bare, un, hok', rv, q⟩ := h
      have q : v = .bl true := q
      subst q
      obtain rfl : u = Value.bool true := rv
      have kept : ∀ b o, b ∉ T → s.heap.get? b = some o → s'.heap.get? b = some o := fun b o hb e => by
        cases q : H b with
        | none => exact un.keep b o e q (fun z => (nomatch z)) (fun z => (nomatch z))
        | some u =>
          rcases told b u q with ⟨z, _⟩ | ⟨rfl, _, rfl⟩
          · exact absurd z hb
          · have z := (hok' _ _ (un.frzs _ _ _ q)).1
            rw [script] at e
            cases e
            exact z
      have more : ∀ b, b ∈ T → ∃ m : Array Value, s'.heap.get? b = some { cls := .none, data := .fields m } := fun b hb => by
        obtain ⟨m, z⟩ := un.tbls b #[] (hT b hb)
        exact ⟨_, hok' b _ z⟩
      refine ⟨rfl, ⟨fun b o e => ?_, fun b o e => ?_⟩, os, bare⟩
      · by_cases hb : b ∈ T
        · obtain ⟨p, hp, rfl⟩ := List.mem_map.mp hb
          obtain ⟨m, hm⟩ := more _ hb
          rw [tabs p hp] at e
          cases e
          exact .inr (.inl ⟨((codes p hp).tab (tabs p hp)).isCodeTable, rfl, #[], m, rfl, by rw [Array.empty_append]; exact hm⟩)
        · exact .inl (kept b o hb e)
      · by_cases hb : b ∈ T
        · obtain ⟨m, hm⟩ := more _ hb
          exact ⟨_, hm⟩
        · exact ⟨o, kept b o hb e⟩
end
/-- what is to be shown of the law's def -/
def LawG (l : PySem.W.OpenLaw) (w : World) (K : PySem.W.Frag) (k n : Nat) (x : Str) (mg : Str → Option Value) (fa : Addr) (h : Heap) : Prop :=
  ∃ (fd : FuncData) (cs : List (Addr × Addr)) (sp : SpG), (∀ p ∈ cs, h.get? p.2 = some { cls := .none, data := .fields #[] }) ∧ (∀ p ∈ cs, K.lookup p.2 = none) ∧ (∀ p ∈ cs, PySem.W.CodeHd h p.1 p.2) ∧ (∀ (s : Shared) (u : Value), BindsTo s fd ⟨[u], []⟩ [(x, u)]) ∧
    (∀ (H : Hp) (a : Addr) (ns : List Int), ns.length ≤ n → (∀ z ∈ ns, Builtin.Int.intBits z ≤ 1048576) → (∀ p ∈ cs, H p.2 = some (.tbl #[])) → Scr K H a (ns.map V.int) → sp [] [.ref a] H (fun v _ => v = .bl true) fun _ _ _ => False) ∧
    ∀ base : Heap, K.In base → base.Ns mainGlobals mg → (∀ p ∈ cs, TabB base mg p.1 p.2) → FnG l.prog w K mg base k fa fd [x] sp
theorem walk_G {l : PySem.W.OpenLaw} {n k : Nat} {q : Program} {loose : List Str} {XP : (Str → Option Value) → Heap → Prop} {YP : World → Heap → Prop} {d : DefRec} {K : Params → PySem.W.Frag} {x : Str} (hn : l.most = some n) (hn2 : n ≤ sizeLine) (hdf : d.params.defaults = []) (hr : Room k callerA) (hY : ∀ (w : World) (h : Heap), YP w h → (K w.params).In h)
    (F : ∀ (w : World) (mg : Str → Option Value) (fa : Addr) (h : Heap), YP w h → (K w.params).In h → h.Ns mainGlobals mg → mg d.name = some (.ref fa) → LawG l w (K w.params) k n x mg fa h) :
    PySem.W.WalkO q loose XP YP l.row.toRowW d [] (fun f vs => PySem.call f vs) := by
  refine Att.attach_callB hn hdf fun w s0 s mg mb fa o pm cd doc a us ns G Y ho hd hcd hmg script hints len bits gens => ?_
  have KX := hY w _ Y
  obtain ⟨fd, cs, sp, tabs, notK, codes, bind, hsp, hF⟩ := F w mg fa _ Y KX G.T.g hmg
  exact end_call KX G.T.g G.T.b G.T.builtins G.T.nolimit gens tabs notK codes G.T.bmain script hints (Nat.le_trans len hn2) hr hF bind fun H hH hS => hsp H a ns len bits hH hS
end Pv
end

section
set_option Elab.async false
set_option linter.all false
set_option maxRecDepth 100000
set_option maxHeartbeats 4000000
/-! places in a text; the fixed facts put together -/
namespace Pv
open PySem PySem.Spec PyProof.Rows L2
/-- a place in a text -/
inductive Pl where
  | e (x : Expr) | s (x : Stmt) | es (l : List Expr) | ss (l : List Stmt) | no
def Pl.kid : Pl → Nat → Pl
  | .es l, i => match l[i]? with
    | some x => .e x
    | none => .no
  | .ss l, i => match l[i]? with
    | some x => .s x
    | none => .no
  | .s (.Assign _ v _), _ => .e v
  | .s (.AugAssign _ _ v _), _ => .e v
  | .s (.Expr v _), _ => .e v
  | .s (.Return (some v) _), _ => .e v
  | .s (.If c a b _), i => if i = 0 then .e c else if i = 1 then .ss a else .ss b
  | .s (.While c a b _), i => if i = 0 then .e c else if i = 1 then .ss a else .ss b
  | .s (.For _ c a b _), i => if i = 0 then .e c else if i = 1 then .ss a else .ss b
  | .e (.BinOp a _ b _), i => if i = 0 then .e a else .e b
  | .e (.UnaryOp _ a _), _ => .e a
  | .e (.BoolOp _ l _), _ => .es l
  | .e (.Compare a _ l _), i => if i = 0 then .e a else .es l
  | .e (.IfExp c a b _), i => if i = 0 then .e c else if i = 1 then .e a else .e b
  | .e (.Call f l _ _), i => if i = 0 then .e f else .es l
  | .e (.Tuple l _ _), _ => .es l
  | .e (.List l _), _ => .es l
  | .e (.Subscript a b _), i => if i = 0 then .e a else .e b
  | .e (.Attribute a _ _), _ => .e a
  | _, _ => .no
def Pl.at (p : Pl) (l : List Nat) : Pl := l.foldl Pl.kid p
def lamOf (N : List Str) (caps : List Nat) (qual : Str) : Pl → LamI
  | .e (.Lambda a b s _) => ⟨N, caps, qual, a, b, s⟩
  | _ => ⟨N, caps, qual, { posonlyargs := [], args := [], vararg := none, kwonlyargs := [], kw_defaults := [], kwarg := none, defaults := [] }, .Constant .none 0 ⟨0, 0, 0, 0⟩, { kind := .function, names := [], isGenerator := false, isCoroutine := false }⟩
/-- of each, by its place -/
def AllI {α : Type} (Pr : Nat → α → Prop) : Nat → List α → Prop
  | _, [] => True
  | i, x :: r => Pr i x ∧ AllI Pr (i + 1) r
theorem allI_get {α : Type} {Pr : Nat → α → Prop} {l : List α} : ∀ {i j : Nat} {x : α}, AllI Pr i l → l[j]? = some x → Pr (i + j) x := by
  induction l with
  | nil => intro i j x _ e; simp at e
  | cons y l ih =>
    intro i j x h e
    cases j with
    | zero =>
      cases e
      exact h.1
    | succ j =>
      have q := ih h.2 (show l[j]? = some x by simpa using e)
      rw [show i + (j + 1) = i + 1 + j by omega]
      exact q
theorem allI_get0 {α : Type} {Pr : Nat → α → Prop} {l : List α} {j : Nat} {x : α} (h : AllI Pr 0 l) (e : l[j]? = some x) : Pr j x := by
  have q := allI_get h e
  rw [Nat.zero_add] at q
  exact q
end Pv
namespace Pv
open PySem PySem.Spec PyProof.Rows L2
/-- a def as the written part has it, its code object cdv -/
structure Fd (K : PySem.W.Frag) (st : Stmt) (nm : Str) (I : FnI) (cdv : Value) : Prop where
  ex : ∃ (oc : Value) (od : Option Addr) (kV doc pm ct : Value) (an : Option Addr) (osl : Array (Option Value)), I.fd = PySem.W.fnOf nm nm (defArgs st) (defBody st) (defScope st) .none kV doc pm an cdv ct ∧ K.lookup I.fa = some ⟨oc, od, .func I.fd, osl⟩
  cd : PySem.W.codeIn K cdv nm = true
  kp : PySem.W.keepIn K (.ref I.fa) = true
section
variable {K : PySem.W.Frag} {st : Stmt} {nm : Str} {I : FnI} {cdv : Value}
theorem fd_mk {f : Addr} {oc : Value} {od an : Option Addr} {osl : Array (Option Value)} {kV doc pm ct : Value} {ps : List Str} (l : K.lookup f = some ⟨oc, od, .func (PySem.W.fnOf nm nm (defArgs st) (defBody st) (defScope st) .none kV doc pm an cdv ct), osl⟩) (c : PySem.W.codeIn K cdv nm = true) (k : PySem.W.keepIn K (.ref f) = true) :
    Fd K st nm ⟨nm, f, PySem.W.fnOf nm nm (defArgs st) (defBody st) (defScope st) .none kV doc pm an cdv ct, ps⟩ cdv := ⟨⟨oc, od, kV, doc, pm, ct, an, osl, rfl, l⟩, c, k⟩
theorem Fd.binds (F : Fd K st nm I cdv) (h : ∀ (kV doc pm ct : Value) (an : Option Addr) (us : List Value), us.length = I.ps.length → bindArgs (PySem.W.fnOf nm nm (defArgs st) (defBody st) (defScope st) .none kV doc pm an cdv ct) ⟨us, []⟩ = pure (I.ps.zip us)) : Binds K I.fd I.ps [] := by
  obtain ⟨oc, od, kV, doc, pm, ct, an, osl, hfd, lk⟩ := F.ex
  rw [hfd]
  exact .all (h kV doc pm ct an)
theorem Fd.defC {Γ : Gam} {P : Prog} {n f : Nat} {N : List Str} {fl : Bool} {m : CS} {q : Str} (F : Fd Γ.K st nm I cdv) (S : FnScope N I.ps (defScope st)) (hP : P.fns f = some (.code I.ps.length N.length fl m)) (hq : nm ++ ".<locals>." = q)
    (hfl : fl = true → (∀ y ∈ (defScope st).names, (defScope st).names.lookup y.1 = some y.2) ∧ ∃ c Pa, cdv = .ref c ∧ Γ.tb q = some (c, Pa)) (hb : ∀ k, SSs ⟨Γ, P, n, k, fl, N, defScope st, q, fun _ => true⟩ (defBody st) m) : DefC Γ P n f I := by
  obtain ⟨oc, od, kV, doc, pm, ct, an, osl, hfd, lk⟩ := F.ex
  subst hq
  exact ⟨nm, nm, defArgs st, defBody st, defScope st, .none, kV, doc, pm, cdv, ct, oc, an, od, osl, N, fl, m, hfd, lk, F.cd, S, hP, hfl, hb⟩
/-! classes of errors -/
theorem kit_own {C D : Addr} {b : Bool} (h1 : PySem.W.isClsIn K D = true) (h2 : PySem.W.typeIn K (.ref D) = some (.type "type")) (h3 : PySem.W.subIn K (.ref C) (.ref D) = some b) (h4 : PySem.W.subIn K (.ref D) (.ref D) = some true) : PySem.W.kitOne K (.ref C) (.ref D) = some b := by
  unfold PySem.W.kitOne
  by_cases e : C = D
  · subst e
    rw [h4] at h3
    cases h3
    rw [if_pos (by simp)]
  · rw [if_neg (by simpa using e)]
    have h1' : (PySem.W.clsIn K D).isSome = true := h1
    show (if ((PySem.W.clsIn K D).isSome && PySem.W.typeIn K (.ref D) == some (.type "type")) = true then PySem.W.subIn K (.ref C) (.ref D) else none) = _
    rw [if_pos (by rw [h1', h2]; rfl)]
    exact h3
theorem kit_tyOwn {D : Addr} {T : String} (h1 : PySem.W.isClsIn K D = true) (h2 : PySem.W.typeIn K (.ref D) = some (.type "type")) (h3 : PySem.W.subIn K (.type T) (.ref D) = some false) : PySem.W.kitOne K (.type T) (.ref D) = some false := by
  unfold PySem.W.kitOne
  rw [if_neg (by simp)]
  have h1' : (PySem.W.clsIn K D).isSome = true := h1
  show (if ((PySem.W.clsIn K D).isSome && PySem.W.typeIn K (.ref D) == some (.type "type")) = true then PySem.W.subIn K (.type T) (.ref D) else none) = _
  rw [if_pos (by rw [h1', h2]; rfl)]
  exact h3
theorem exm_own {C D : Addr} {b : Bool} (hB : PySem.W.subIn K (.ref D) (.type "BaseException") = some true) (h1 : PySem.W.isClsIn K D = true) (h2 : PySem.W.typeIn K (.ref D) = some (.type "type")) (h3 : PySem.W.subIn K (.ref C) (.ref D) = some b) : PySem.W.exmOne K (.ref C) (.ref D) = some b := by
  have e1 : (PySem.W.subIn K (.ref D) (.type "BaseException") == some true) = true := by
    rw [hB] <;> rfl
  have e2 : ((PySem.W.clsIn K D).isSome && PySem.W.typeIn K (.ref D) == some (.type "type")) = true := by
    have h1' : (PySem.W.clsIn K D).isSome = true := h1
    rw [h1', h2] <;> rfl
  show (if (PySem.W.subIn K (.ref D) (.type "BaseException") == some true) = true then (if ((PySem.W.clsIn K D).isSome && PySem.W.typeIn K (.ref D) == some (.type "type")) = true then PySem.W.subIn K (.ref C) (.ref D) else none) else none) = _
  rw [if_pos e1, if_pos e2]
  exact h3
end
/-- what every class of errors brings -/
structure ClsK (K : PySem.W.Frag) (C : Addr) : Prop where
  ga : PySem.W.findIn K (.ref C) "__getattribute__" = some (some (.builtin "BaseException.__getattribute__"))
  gg : PySem.W.findIn K (.ref C) "__getattr__" = some none
  ex : PySem.W.subIn K (.ref C) (.type "BaseException") = some true
  hd : PySem.W.hasDictIn K C = true
  ic : PySem.W.isClsIn K C = true
  cl : PySem.W.findIn K (.ref C) "__class__" = some (some (.builtin "object.__class__"))
  mo : PySem.W.mroIn K C (.type "object") = some true
  ty : PySem.W.typeIn K (.ref C) = some (.type "type")
  self : PySem.W.subIn K (.ref C) (.ref C) = some true
  n1 : PySem.W.subIn K (.type "NoneType") (.ref C) = some false
  n2 : PySem.W.subIn K (.type "bool") (.ref C) = some false
  n3 : PySem.W.subIn K (.type "int") (.ref C) = some false
  n4 : PySem.W.subIn K (.type "str") (.ref C) = some false
  n5 : PySem.W.subIn K (.type "tuple") (.ref C) = some false
  n6 : PySem.W.subIn K (.type "list") (.ref C) = some false
theorem ClsK.not {K : PySem.W.Frag} {C : Addr} (h : ClsK K C) (a : D) (T : String) (e : kindD a = some T) : PySem.W.kitOne K (.type T) (.ref C) = some false := by
  cases a <;> cases e
  · exact kit_tyOwn h.ic h.ty h.n1
  · exact kit_tyOwn h.ic h.ty h.n2
  · exact kit_tyOwn h.ic h.ty h.n3
  · exact kit_tyOwn h.ic h.ty h.n4
  · exact kit_tyOwn h.ic h.ty h.n5
  · exact kit_tyOwn h.ic h.ty h.n6
/-- the fixed facts, from lists -/
def mkΓ (K : PySem.W.Frag) (prog : Program) (mg : Str → Option Value) (cl : List (Addr × Option Str)) (ls : List LamI) (T : List (Addr × Str)) (fl : List FnI) (tb : Str → Option (Addr × Addr)) : Gam :=
  { K := K, prog := prog, mg := mg, ca := fun c => cl[c]?, li := fun b => ls[b]?, T := T, fi := fun f => fl[f]?, tb := tb }
theorem gok_mk {K : PySem.W.Frag} {prog : Program} {mg : Str → Option Value} {cl : List (Addr × Option Str)} {ls : List LamI} {T : List (Addr × Str)} {fl : List FnI} {tb : Str → Option (Addr × Addr)} {P : Prog}
    (hf : AllI (fun _ (I : FnI) => mg I.nm = some (.ref I.fa) ∧ PySem.W.keepIn K (.ref I.fa) = true ∧ Binds K I.fd I.ps [] ∧ (I.nm == ("__debug__" : Str)) = false) 0 fl)
    (hc : AllI (fun _ (p : Addr × Option Str) => ClsK K p.1 ∧ ∀ f, p.2 = some f → PySem.W.findIn K (.ref p.1) f = some none) 0 cl)
    (g1 : PySem.W.specialIn K (.builtin "object.__class__") "__get__" = some (some (.builtin "getset_descriptor.__get__"))) (g2 : PySem.W.takesIn K (.builtin "object.__class__") = some true)
    (hs : AllI (fun c (p : Addr × Option Str) => AllI (fun k (q : Addr × Option Str) => ∀ b, P.sub c k = some b → PySem.W.subIn K (.ref p.1) (.ref q.1) = some b) 0 cl) 0 cl) : GOk (mkΓ K prog mg cl ls T fl tb) P where
  fn := fun f I h => allI_get0 hf h
  at_ := fun c C f h => by
    have q := allI_get0 hc (show cl[c]? = some (C, some f) from h)
    exact q.2 f rfl
  xf := fun c C fo h => ⟨(allI_get0 hc h).1.ga, (allI_get0 hc h).1.gg, (allI_get0 hc h).1.ex, (allI_get0 hc h).1.hd⟩
  cls := fun c C fo h => ⟨(allI_get0 hc h).1.ic, (allI_get0 hc h).1.cl, (allI_get0 hc h).1.mo⟩
  ga := ⟨g1, g2⟩
  one := fun c k C D fo fo' b h1 h2 h3 => by
    have s1 := allI_get0 (Pr := fun c (p : Addr × Option Str) => AllI (fun k (q : Addr × Option Str) => ∀ b, P.sub c k = some b → PySem.W.subIn K (.ref p.1) (.ref q.1) = some b) 0 cl) hs (show cl[c]? = some (C, fo) from h1)
    have s2 := allI_get0 (Pr := fun k (q : Addr × Option Str) => ∀ b, P.sub c k = some b → PySem.W.subIn K (.ref C) (.ref q.1) = some b) s1 (show cl[k]? = some (D, fo') from h2)
    have s := s2 b h3
    have k := (allI_get0 hc (show cl[k]? = some (D, fo') from h2)).1
    exact ⟨kit_own k.ic k.ty s k.self, exm_own k.ex k.ic k.ty s⟩
  not := fun a T c C fo h h2 => (allI_get0 hc h2).1.not a T h
end Pv
end

section
set_option Elab.async false
set_option linter.all false
set_option maxRecDepth 100000
set_option maxHeartbeats 4000000
/-! plain laws: the draws -/
namespace Pv
open PySem
theorem M.run_bind {α β : Type} (m : M α) (f : α → M β) (t : S0) : (m >>= f) t = match m t with
  | .ok a t' => f a t'
  | .exc c x t' => .exc c x t'
  | .bad => .bad := rfl
theorem M.opt_some {α : Type} (a : α) : M.opt (some a) = pure a := rfl
theorem M.opt_none {α : Type} : (M.opt none : M α) = M.fail := rfl
theorem M.st_run {α : Type} (f : S0 → Out α) (t : S0) : M.st f t = f t := rfl
theorem M.fail_run {α : Type} (t : S0) : (M.fail : M α) t = .bad := rfl
theorem M.raise_run {α : Type} (c : Nat) (x : Option D) (t : S0) : (M.raise c x : M α) t = .exc c x t := rfl
theorem M.fail_bind {α β : Type} (f : α → M β) : ((M.fail : M α) >>= f) = M.fail := rfl
theorem M.raise_bind {α β : Type} (c : Nat) (x : Option D) (f : α → M β) : ((M.raise c x : M α) >>= f) = M.raise c x := rfl
theorem outD_false (n : Nat) (m : M D) : outD false n m = m := by
  funext t
  unfold outD
  cases m t <;> rfl
/-- it goes well from every good state, to a good state -/
def Ok {α : Type} (I : DS → Prop) (m : M α) (Q : α → Prop) : Prop := ∀ s, I s → ∃ a s', m (some s) = .ok a (some s') ∧ I s' ∧ Q a
def Ex {α : Type} (I : DS → Prop) (m : M α) (c : Nat) (x : Option D) : Prop := ∀ s, I s → ∃ s', m (some s) = .exc c x (some s') ∧ I s'
section
variable {α β : Type} {I : DS → Prop} {m : M α} {f : α → M β} {Q : α → Prop} {Q' : β → Prop}
theorem Ok.pure {a : α} (h : Q a) : Ok I (pure a : M α) Q := fun s hs => ⟨a, s, rfl, hs, h⟩
theorem Ok.bind (h : Ok I m Q) (k : ∀ a, Q a → Ok I (f a) Q') : Ok I (m >>= f) Q' := fun s hs => by
  obtain ⟨a, s1, e, h1, hq⟩ := h s hs
  obtain ⟨b, s2, e2, h2, hq2⟩ := k a hq s1 h1
  exact ⟨b, s2, by rw [bind_ok e]; exact e2, h2, hq2⟩
theorem Ok.imp {Q2 : α → Prop} (h : Ok I m Q) (k : ∀ a, Q a → Q2 a) : Ok I m Q2 := fun s hs => by
  obtain ⟨a, s1, e, h1, hq⟩ := h s hs
  exact ⟨a, s1, e, h1, k a hq⟩
theorem Ok.bindE {c : Nat} {x : Option D} (h : Ok I m Q) (k : ∀ a, Q a → Ex I (f a) c x) : Ex I (m >>= f) c x := fun s hs => by
  obtain ⟨a, s1, e, h1, hq⟩ := h s hs
  obtain ⟨s2, e2, h2⟩ := k a hq s1 h1
  exact ⟨s2, by rw [bind_ok e]; exact e2, h2⟩
theorem Ex.bind {c : Nat} {x : Option D} (h : Ex I m c x) : Ex I (m >>= f) c x := fun s hs => by
  obtain ⟨s1, e, h1⟩ := h s hs
  exact ⟨s1, bind_exc e, h1⟩
theorem Ex.raise {c : Nat} {x : Option D} : Ex I (M.raise c x : M α) c x := fun s hs => ⟨s, rfl, hs⟩
theorem Ok.eq {m' : M α} (e : m = m') (h : Ok I m' Q) : Ok I m Q := e ▸ h
theorem Ex.eq {m' : M α} {c : Nat} {x : Option D} (e : m = m') (h : Ex I m' c x) : Ex I m c x := e ▸ h
end
theorem nx_pure {α : Type} (a : α) : nx (pure a : M α) = pure a := rfl
/-! the first lines of every law -/
def begunC : CS := (sSeq (sAsgOwn 1 (eComp [2] (.name 2) (iOver (eVar 0)) (eCmp .ge (eBi .abs (lCons (eVar 2) lNil)) (eBin .pow (eK (.int 10)) (eK (.int 18)))) (eBin .sub (eBi .abs (lCons (eVar 2) lNil)) (eBin .pow (eK (.int 10)) (eK (.int 18)))))) (sBegun 1 (eComp [2] (.name 2) (iOver (eVar 0)) (eK (.bl true)) (eBi .abs (lCons (eVar 2) lNil)))))
def stirC : CS := (sAsg 4 (eBin .mod (eBi .int (lCons (eBin .add (eBin .add (eBin .mul (eVar 4) (eK (.int 48271))) (eBi .int (lCons (eVar 5) lNil))) (eK (.int 5))) lNil)) (eVar 3)))
def lapC : CS := (sSeq (sAsg 4 (eBin .mod (eBi .int (lCons (eBin .add (eBin .mul (eVar 1) (eK (.int 69621))) (eBin .fdiv (eVar 3) (eK (.int 13)))) lNil)) (eVar 3))) (sSeq (sFor (.name 5) (iOver (eCells 0)) stirC) (sAsg 2 (eBin .add (eBin .mul (eVar 2) (eK (.int 2147483647))) (eBin .mod (eBi .int (lCons (eBin .pow (eVar 4) (eK (.int 5))) lNil)) (eVar 3))))))
def blendC : CS := (sSeq (sPar [1, 2] [.e (eBin .add (eDr false 0) (eK (.int 1))), .e (eK (.int 0))]) (sSeq (sDr false 0 (eVar 1)) (sSeq (sFor (.name 3) (iOver (eLst (lCons (eK (.int 2147483629)) (lCons (eK (.int 2147483587)) (lCons (eK (.int 2147483579)) lNil))))) lapC) (sRet (eVar 2)))))
def takeWC : CS := (sWhile (eAnd (eCmp .eq (eDr true 0) (eK (.int 0))) (eLargeNe 0)) (sDr true 0 (ePop 0)))
def takeC (ib : Nat) : CS := (sSeq takeWC (sSeq (sIf (eCmp .eq (eDr true 0) (eK (.int 0))) (sDr true 0 (eCall ib (lCons (eVar 0) lNil))) sPass) (sSeq (sAsg 2 (eBin .mod (eBi .int (lCons (eDr true 0) lNil)) (eVar 1))) (sSeq (sDr true 0 (eBin .fdiv (eBi .int (lCons (eDr true 0) lNil)) (eVar 1))) (sRet (eVar 2))))))
def pickC (it : Nat) : CS := (sRet (eIx (eVar 1) (eCall it (lCons (eVar 0) (lCons (eBi .len (lCons (eVar 1) lNil)) lNil)))))
def caughtC (c : Nat) : CS := (sSeq (sAsg 1 (eK .non)) (sSeq (sTry (eCallv 0) c 2 1) (sRet (eVar 1))))
def sameC : CS := (sRet (eCmp .eq (eBi .repr (lCons (eVar 0) lNil)) (eBi .repr (lCons (eVar 1) lNil))))
/-- a good state -/
def Gd (s : DS) : Prop := s.large.length ≤ 63
theorem intEq (i j : Int) : vcmp .eq (.int i) (.int j) = some (i == j) := rfl
section
variable {c : Ctx} {s : DS} {x1 : Slot} {z : Int}
theorem stir_run {prime laps found st cell : Int} {t : S0} {s0 : Slot} (hp : 0 < prime) :
    stirC c [s0, .pl (.int laps), .pl (.int found), .pl (.int prime), .pl (.int st), .pl (.int cell)] t = .ok (.nx [s0, .pl (.int laps), .pl (.int found), .pl (.int prime), .pl (.int ((st * 48271 + cell + 5) % prime)), .pl (.int cell)]) t := by
  simp [stirC, sAsg, eBin, eBi, lCons, lNil, eVar, eK, M.run_bind, M.st_run, vbin, vbi, mulOk, isInt64, M.opt_some, hp]
theorem stirs_run {prime laps found : Int} {t : S0} {s0 : Slot} (hp : 0 < prime) : ∀ (cells : List Int) (st : Int) (s5 : Slot), 0 ≤ st → st < prime → ∃ st' s5', 0 ≤ st' ∧ st' < prime ∧
    floop (.name 5) (fun ρ => stirC c ρ) (cells.map .int) [s0, .pl (.int laps), .pl (.int found), .pl (.int prime), .pl (.int st), s5] t = .ok (.nx [s0, .pl (.int laps), .pl (.int found), .pl (.int prime), .pl (.int st'), s5']) t
  | [], st, s5, h1, h2 => ⟨st, s5, h1, h2, rfl⟩
  | x :: r, st, s5, h1, h2 => by
    obtain ⟨st', s5', a, b, e⟩ := stirs_run (laps := laps) (found := found) (t := t) (s0 := s0) hp r ((st * 48271 + x + 5) % prime) (.pl (.int x)) (Int.emod_nonneg _ (by omega)) (Int.emod_lt_of_pos _ hp)
    refine ⟨st', s5', a, b, ?_⟩
    rw [← e]
    show (M.opt (bindTg (.name 5) (.int x) _) >>= _) t = _
    simp only [bindTg, M.opt_some, M.pure_bind, List.set_cons_succ, List.set_cons_zero]
    rw [bind_ok (stir_run hp)]
theorem lap_run {prime laps found : Int} {s4 s5 : Slot} (hp : 0 < prime) (hq : prime < 2 ^ 32) : ∃ v st s5', lapC c [.pl .draw, .pl (.int laps), .pl (.int found), .pl (.int prime), s4, s5] (some s) = .ok (.nx [.pl .draw, .pl (.int laps), .pl (.int v), .pl (.int prime), .pl (.int st), s5']) (some s) := by
  obtain ⟨st', s5', a, b, e⟩ := stirs_run (c := c) (laps := laps) (found := found) (t := some s) (s0 := .pl .draw) hp s.cells ((laps * 69621 + prime / 13) % prime) s5 (Int.emod_nonneg _ (by omega)) (Int.emod_lt_of_pos _ hp)
  refine ⟨found * 2147483647 + st' ^ 5 % prime, st', s5', ?_⟩
  unfold lapC
  have h1 : (sAsg 4 (eBin .mod (eBi .int (lCons (eBin .add (eBin .mul (eVar 1) (eK (.int 69621))) (eBin .fdiv (eVar 3) (eK (.int 13)))) lNil)) (eVar 3))) c [.pl .draw, .pl (.int laps), .pl (.int found), .pl (.int prime), s4, s5] (some s) = .ok (.nx [.pl .draw, .pl (.int laps), .pl (.int found), .pl (.int prime), .pl (.int ((laps * 69621 + prime / 13) % prime)), s5]) (some s) := by
    have l2 : Nat.log2 13 < 9000 := by decide
    simp [sAsg, eBin, eBi, lCons, lNil, eVar, eK, M.run_bind, M.st_run, vbin, vbi, mulOk, isInt64, M.opt_some, hp, l2]
  have h2 : (sFor (.name 5) (iOver (eCells 0)) stirC) c [.pl .draw, .pl (.int laps), .pl (.int found), .pl (.int prime), .pl (.int ((laps * 69621 + prime / 13) % prime)), s5] (some s) = .ok (.nx [.pl .draw, .pl (.int laps), .pl (.int found), .pl (.int prime), .pl (.int st'), s5']) (some s) := by
    rw [← e]
    simp [sFor, iOver, eCells, M.run_bind, M.st_run, seqD, M.opt_some]
  have h3 : (sAsg 2 (eBin .add (eBin .mul (eVar 2) (eK (.int 2147483647))) (eBin .mod (eBi .int (lCons (eBin .pow (eVar 4) (eK (.int 5))) lNil)) (eVar 3)))) c [.pl .draw, .pl (.int laps), .pl (.int found), .pl (.int prime), .pl (.int st'), s5'] (some s) = .ok (.nx [.pl .draw, .pl (.int laps), .pl (.int (found * 2147483647 + st' ^ 5 % prime)), .pl (.int prime), .pl (.int st'), s5']) (some s) := by
    have hs : st'.natAbs < 18446744073709551616 := by omega
    simp [sAsg, eBin, eBi, lCons, lNil, eVar, eK, M.run_bind, M.st_run, vbin, vbi, mulOk, isInt64, M.opt_some, hp, hs]
  unfold sSeq
  rw [bind_ok h1]
  show (sFor (.name 5) (iOver (eCells 0)) stirC c _ >>= _) (some s) = _
  rw [bind_ok h2]
  exact h3
theorem blend_run (c : Ctx) (s : DS) : ∃ v ρ, (blendC c (startE 6 [.draw]) >>= rtD) (some s) = .ok (.int v) (some { s with turn := ρ }) := by
  obtain ⟨v1, st1, a1, e1⟩ := lap_run (c := c) (s := { s with turn := s.turn + 1 }) (prime := 2147483629) (laps := s.turn + 1) (found := 0) (s4 := .un) (s5 := .un) (by decide) (by decide)
  obtain ⟨v2, st2, a2, e2⟩ := lap_run (c := c) (s := { s with turn := s.turn + 1 }) (prime := 2147483587) (laps := s.turn + 1) (found := v1) (s4 := .pl (.int st1)) (s5 := a1) (by decide) (by decide)
  obtain ⟨v3, st3, a3, e3⟩ := lap_run (c := c) (s := { s with turn := s.turn + 1 }) (prime := 2147483579) (laps := s.turn + 1) (found := v2) (s4 := .pl (.int st2)) (s5 := a2) (by decide) (by decide)
  refine ⟨v3, s.turn + 1, ?_⟩
  simp [blendC, sSeq, sPar, runs1, PI1.run, setSl, eBin, eDr, eK, eVar, vbin, M.run_bind, M.st_run, M.opt_some, startE, sDr, sFor, iOver, eLst, lCons, lNil, seqD, floop, bindTg, e1, e2, e3, sRet, rtD]
theorem takeW_run (c : Ctx) (x2 : Slot) : ∀ (fuel : Nat) (s : DS), s.large.length < fuel → ∃ s', s'.large.length ≤ s.large.length ∧
    wloop (fun ρ' => (eAnd (eCmp .eq (eDr true 0) (eK (.int 0))) (eLargeNe 0)) c ρ' >>= vb) (fun ρ' => (sDr true 0 (ePop 0)) c ρ') fuel [.pl .draw, .pl (.int z), x2] (some s) = .ok (.nx [.pl .draw, .pl (.int z), x2]) (some s')
  | 0, s, h => by omega
  | fuel + 1, s, h => by
    cases hl : s.large with
    | nil =>
      refine ⟨s, by rw [hl]; exact Nat.le_refl _, ?_⟩
      by_cases hr : s.rest = 0 <;> simp [wloop, eAnd, eCmp, eDr, eK, eLargeNe, M.run_bind, M.st_run, M.opt_some, intEq, vb, vbool, hl, hr]
    | cons y r =>
      by_cases hr : s.rest = 0
      · obtain ⟨s', a, e⟩ := takeW_run c x2 fuel { s with large := r, rest := y } (by rw [hl] at h; simp at h; simpa using h)
        refine ⟨s', Nat.le_trans a (by simp), ?_⟩
        rw [← e]
        simp [wloop, eAnd, eCmp, eDr, eK, eLargeNe, M.run_bind, M.st_run, M.opt_some, intEq, vb, vbool, hl, hr, sDr, ePop]
      · refine ⟨s, by rw [hl]; exact Nat.le_refl _, ?_⟩
        simp [wloop, eAnd, eCmp, eDr, eK, eLargeNe, M.run_bind, M.st_run, M.opt_some, intEq, vb, vbool, hl, hr]
end
section
variable {P : Prog} {n : Nat} {ib it ip : Nat}
/-- a draw: any number from 0 on, below size -/
theorem take_ok (hb : P.fns ib = some (.code 1 6 false blendC)) (ht : P.fns it = some (.code 2 3 false (takeC ib))) (hn : 63 < n) {k : Nat} {fs : List Env1} {z : Int} (h0 : 0 < z) (hz : z.natAbs.log2 < 9000) :
    Ok Gd ((run P n (k + 2)).1 it fs [.draw, .int z]) fun d => ∃ r, d = .int r ∧ 0 ≤ r ∧ r < z := fun s hs => by
  rw [run_code ht rfl, outD_false]
  have hs : s.large.length ≤ 63 := hs
  obtain ⟨s1, g1, e1⟩ := takeW_run (z := z) (ctxOf P n (run P n (k + 1)) false fs) .un n s (by omega)
  have e1 : takeWC (ctxOf P n (run P n (k + 1)) false fs) (startE 3 [.draw, .int z]) (some s) = .ok (.nx [.pl .draw, .pl (.int z), .un]) (some s1) := e1
  have hcall : ∀ fs', (run P n (k + 1)).1 ib fs' [.draw] = blendC (ctxOf P n (run P n k) false fs') (startE 6 [.draw]) >>= rtD := fun fs' => by
    rw [run_code hb rfl, outD_false]
  have key : ∃ s2, s2.large.length ≤ 63 ∧ (sIf (eCmp .eq (eDr true 0) (eK (.int 0))) (sDr true 0 (eCall ib (lCons (eVar 0) lNil))) sPass) (ctxOf P n (run P n (k + 1)) false fs) [.pl .draw, .pl (.int z), .un] (some s1) = .ok (.nx [.pl .draw, .pl (.int z), .un]) (some s2) := by
    by_cases hr : s1.rest = 0
    · obtain ⟨v, tn, e2⟩ := blend_run (ctxOf P n (run P n k) false fs) s1
      refine ⟨{ s1 with rest := v, turn := tn }, by simpa using Nat.le_trans g1 hs, ?_⟩
      simp [sIf, eCmp, eDr, eK, M.run_bind, M.st_run, M.opt_some, intEq, vb, vbool, hr, sDr, eCall, lCons, lNil, eVar, ctxOf, Ctx.now]
      rw [hcall, e2]
    · exact ⟨s1, Nat.le_trans g1 hs, by simp [sIf, eCmp, eDr, eK, M.run_bind, M.st_run, M.opt_some, intEq, vb, vbool, hr, sPass]⟩
  obtain ⟨s2, g2, e3⟩ := key
  refine ⟨.int (s2.rest % z), { s2 with rest := s2.rest / z }, ?_, g2, _, rfl, Int.emod_nonneg _ (by omega), Int.emod_lt_of_pos _ h0⟩
  unfold takeC sSeq
  simp [M.run_bind, M.st_run, e1, e3, sAsg, eBin, eBi, lCons, lNil, eDr, eVar, vbin, vbi, M.opt_some, h0, hz, sDr, sRet, rtD]
/-- an element of a list -/
theorem pick_ok (hb : P.fns ib = some (.code 1 6 false blendC)) (ht : P.fns it = some (.code 2 3 false (takeC ib))) (hp : P.fns ip = some (.code 2 2 false (pickC it))) (hn : 63 < n) {k : Nat} {fs : List Env1} {xs : List D} (h0 : xs ≠ []) (hz : xs.length < 2 ^ 64) :
    Ok Gd ((run P n (k + 3)).1 ip fs [.draw, .lst xs]) fun d => d ∈ xs := by
  rw [run_code hp rfl, outD_false]
  have hl : 0 < xs.length := List.length_pos_iff.mpr h0
  have lg : ((xs.length : Int)).natAbs.log2 < 9000 := by
    have e : ((xs.length : Int)).natAbs = xs.length := rfl
    rw [e]
    have h64 : xs.length.log2 < 64 := (Nat.log2_lt (by omega)).mpr hz
    omega
  have e : (pickC it (ctxOf P n (run P n (k + 2)) false fs) (startE 2 [.draw, .lst xs]) >>= rtD) = ((run P n (k + 2)).1 it fs [.draw, .int xs.length] >>= fun r => M.opt (vix (.lst xs) r)) := by
    simp only [pickC, sRet, eIx, eVar, eCall, lCons, lNil, eBi, startE, ctxOf, Ctx.now, M.assoc, M.pure_bind, vbi, M.opt_some, List.map_cons, List.map_nil, List.length_cons, List.length_nil, List.cons_append, List.nil_append, List.getElem?_cons_succ, List.getElem?_cons_zero]
    have e2 : ∀ x : M D, (x >>= fun x => (pure (Fl.rt x) : M Fl) >>= rtD) = x := fun x => by
      funext t
      simp only [M.run_bind]
      cases x t <;> rfl
    simp [M.assoc, M.pure_bind, rtD]
    congr 1
    funext y
    funext t
    simp only [M.run_bind]
    cases M.opt (vix (.lst xs) y) t <;> rfl
  rw [e]
  refine Ok.bind (take_ok hb ht hn (by omega) lg) fun d hd => ?_
  obtain ⟨r, rfl, h1, h2⟩ := hd
  have hr : r.toNat < xs.length := by omega
  have e3 : vix (.lst xs) (.int r) = some (xs[r.toNat]'hr) := by
    show L2.atI xs r = _
    have q := L2.atI_nat (List.getElem?_eq_getElem hr)
    rw [show ((r.toNat : Nat) : Int) = r by omega] at q
    exact q
  rw [e3]
  exact Ok.pure (List.getElem_mem hr)
/-- what can be compared by its repr -/
def Rp (a : D) : Prop := ∃ p, shapedD a = some p ∧ p.showable = true ∧ p.depth ≤ 64 ∧ p.shown.length ≤ sizeLine ∧ PyData.strOk p.shown = true
theorem same_run {isame : Nat} (hs : P.fns isame = some (.code 2 2 false sameC)) {k : Nat} {fs : List Env1} {a : D} (h : Rp a) : (run P n (k + 1)).1 isame fs [a, a] = pure (.bl true) := by
  rw [run_code hs rfl, outD_false]
  obtain ⟨p, h1, h2, h3, h4, h5⟩ := h
  have e1 : vbi P.sub .repr [a] = some (.str p.shown) := by
    show ((shapedD a).bind fun p => if p.showable && (decide (p.depth ≤ 64) && decide (p.shown.length ≤ sizeLine)) then some (D.str p.shown) else none) = _
    rw [h1]
    show (if p.showable && (decide (p.depth ≤ 64) && decide (p.shown.length ≤ sizeLine)) then some (D.str p.shown) else none) = _
    rw [if_pos (by simp [h2, h3, h4])]
  have e2 : shapedD (.str p.shown) = some (.str p.shown) := by
    show (some (PyData.str p.shown)).bind (fun p => if SeqAt.shaped p then some p else none) = _
    rw [Option.bind_some, if_pos]
    show (PyData.strOk p.shown && decide (0 ≤ 64)) = true
    rw [h5]
    rfl
  have e3 : vcmp .eq (.str p.shown) (.str p.shown) = some true := by
    show ((shapedD (.str p.shown)).bind fun p' => (shapedD (.str p.shown)).map fun q => PyData.eqv p' q) = _
    rw [e2]
    show some (p.shown == p.shown) = _
    simp
  simp only [sameC, sRet, eCmp, eBi, lCons, lNil, eVar, startE, ctxOf, M.pure_bind, M.assoc, List.map_cons, List.map_nil, List.length_cons, List.length_nil, List.cons_append, List.nil_append, List.getElem?_cons_succ, List.getElem?_cons_zero, e1, M.opt_some, e3, rtD]
/-- the script, taken over -/
theorem mloop_ints {f : D → List D → M (List D)} {p : Int → Bool} {g : Int → Int} (hf : ∀ i acc, f (.int i) acc = if p i then (if acc.length < sizeLine then pure (acc ++ [D.int (g i)]) else M.fail) else pure acc) : ∀ (ns : List Int) (acc : List D), acc.length + ns.length ≤ sizeLine → mloop f (ns.map .int) acc = pure (acc ++ ((ns.filter p).map g).map .int)
  | [], acc, h => by simp [mloop]
  | i :: r, acc, h => by
    rw [List.length_cons] at h
    rw [List.map_cons, mloop, hf]
    by_cases hp : p i = true
    · rw [if_pos hp, if_pos (by omega), M.pure_bind, mloop_ints hf r _ (by rw [List.length_append]; simp; omega), List.filter_cons_of_pos hp]
      simp
    · rw [if_neg hp, M.pure_bind, mloop_ints hf r _ (by omega), List.filter_cons_of_neg hp]
theorem noLams_ints (ns : List Int) : noLams 0 (ns.map D.int) = true := by
  induction ns with
  | nil => rfl
  | cons n ns ih =>
    show (noLam 0 (.int n) && noLams 0 (ns.map D.int)) = true
    rw [ih]
    rfl
theorem ints_map (ns : List Int) : ints? (ns.map D.int) = some ns := by
  induction ns with
  | nil => rfl
  | cons n ns ih =>
    show (ints? (ns.map D.int)).map (n :: ·) = _
    rw [ih]
    rfl
theorem begun_run {ig : Nat} (hg : P.fns ig = some (.code 1 3 false begunC)) {k : Nat} {fs : List Env1} {ns : List Int} (h : ns.length ≤ sizeLine) : ∃ s, (run P n (k + 1)).1 ig fs [.scr ns] none = .ok .draw (some s) ∧ s.large.length ≤ ns.length := by
  rw [run_code hg rfl, outD_false]
  let ab : Int → Int := fun i => if i < 0 then -i else i
  have pw : vbin .pow (.int 10) (.int 18) = some (.int (10 ^ 18)) := by simp [vbin]
  have h1 : (eComp [2] (.name 2) (iOver (eVar 0)) (eCmp .ge (eBi .abs (lCons (eVar 2) lNil)) (eBin .pow (eK (.int 10)) (eK (.int 18)))) (eBin .sub (eBi .abs (lCons (eVar 2) lNil)) (eBin .pow (eK (.int 10)) (eK (.int 18))))) (ctxOf P n (run P n k) false fs) [.pl (.scr ns), .un, .un] = pure (.lst (((ns.filter fun i => decide ((10 : Int) ^ 18 ≤ ab i)).map fun i => ab i - 10 ^ 18).map .int)) := by
    unfold eComp
    have e0 : iOver (eVar 0) (ctxOf P n (run P n k) false fs) [.pl (.scr ns), .un, .un] = pure (ns.map .int) := rfl
    rw [e0, M.pure_bind, if_pos (noLams_ints ns), mloop_ints (p := fun i => decide ((10 : Int) ^ 18 ≤ ab i)) (g := fun i => ab i - 10 ^ 18) (fun i acc => ?_) ns [] (by simpa using h), M.pure_bind]
    · simp
    · have e1 : vcmp .ge (.int (ab i)) (.int (10 ^ 18)) = some (decide ((10 : Int) ^ 18 ≤ ab i)) := rfl
      have e2 : vbin .sub (.int (ab i)) (.int (10 ^ 18)) = some (.int (ab i - 10 ^ 18)) := rfl
      have e3 : vbi P.sub .abs [.int i] = some (.int (ab i)) := rfl
      simp only [bindTg, M.opt_some, M.pure_bind, wipeE, cleanS, List.map_cons, List.map_nil, noLam, List.set_cons_succ, List.set_cons_zero, eCmp, eBi, lCons, lNil, eVar, eBin, eK, ctxOf, List.getElem?_cons_succ, List.getElem?_cons_zero, pw, M.assoc, e1, e2, e3, vb_bl, nx_pure]
  have h2 : (eComp [2] (.name 2) (iOver (eVar 0)) (eK (.bl true)) (eBi .abs (lCons (eVar 2) lNil))) (ctxOf P n (run P n k) false fs) [.pl (.scr ns), .own (((ns.filter fun i => decide ((10 : Int) ^ 18 ≤ ab i)).map fun i => ab i - 10 ^ 18).map .int), .un] = pure (.lst ((ns.map ab).map .int)) := by
    unfold eComp
    have e0 : iOver (eVar 0) (ctxOf P n (run P n k) false fs) [.pl (.scr ns), .own (((ns.filter fun i => decide ((10 : Int) ^ 18 ≤ ab i)).map fun i => ab i - 10 ^ 18).map .int), .un] = pure (ns.map .int) := rfl
    rw [e0, M.pure_bind, if_pos (noLams_ints ns), mloop_ints (p := fun _ => true) (g := ab) (fun i acc => ?_) ns [] (by simpa using h), M.pure_bind]
    · simp [List.filter_eq_self.mpr]
    · have e3 : vbi P.sub .abs [.int i] = some (.int (ab i)) := rfl
      simp only [bindTg, M.opt_some, M.pure_bind, wipeE, cleanS, List.map_cons, List.map_nil, noLam, List.set_cons_succ, List.set_cons_zero, eBi, lCons, lNil, eVar, eK, ctxOf, List.getElem?_cons_succ, List.getElem?_cons_zero, M.assoc, e3, vb_bl, nx_pure, if_true]
  refine ⟨⟨(ns.filter fun i => decide ((10 : Int) ^ 18 ≤ ab i)).map fun i => ab i - 10 ^ 18, ns.map ab, 0, 0⟩, ?_, by simpa using List.length_filter_le _ _⟩
  have hst : startE 3 [.scr ns] = [.pl (.scr ns), .un, .un] := rfl
  rw [hst]
  simp only [begunC, sSeq, sAsgOwn, h1, M.pure_bind, List.set_cons_succ, List.set_cons_zero, sBegun, List.getElem?_cons_succ, List.getElem?_cons_zero, h2, ints_map, M.run_bind, M.st_run, rtD]
  rfl
/-- the caught error -/
theorem caught_ok {ic q b fid : Nat} {x : Option D} {c : Nat} (hc : P.fns ic = some (.code 1 3 false (caughtC c))) (hsub : P.sub q c = some true) {k : Nat} {fs : List Env1} (hx : Ex Gd ((run P n (k + 1)).2 fid b fs) q x) :
    Ok Gd ((run P n (k + 2)).1 ic fs [.lam fid b]) fun d => d = .err q x := fun s hs => by
  rw [run_code hc rfl, outD_false]
  obtain ⟨s1, e, h1⟩ := hx s hs
  refine ⟨.err q x, s1, ?_, h1, rfl⟩
  have e2 : (ctxOf P n (run P n (k + 1)) false fs).lamc fid b ((ctxOf P n (run P n (k + 1)) false fs).now [.pl (.lam fid b), .pl .non, .un]) = (run P n (k + 1)).2 fid b fs := rfl
  have e3 : (ctxOf P n (run P n (k + 1)) false fs).sub q c = some true := hsub
  simp [caughtC, sSeq, sAsg, eK, M.run_bind, startE, sTry, M.st_run, eCallv, e2, e, e3, sRet, eVar, rtD]
end
end Pv
end

section
set_option Elab.async false
set_option linter.all false
set_option maxRecDepth 100000
set_option maxHeartbeats 4000000
namespace K11
open PySem PySem.Spec PyProof.Rows L2 Pv
def top (i : Nat) : Stmt := PySem.Challenge.pw_readalike_k11_whole_tokens.main.body.getD i (.Pass ⟨0, 0, 0, 0⟩)
abbrev s_end_of_row : Stmt := top 9
abbrev N_end_of_row : List Str := ["text", "at", "signs"]
abbrev s_token_end : Stmt := top 10
abbrev N_token_end : List Str := ["text", "at", "end"]
abbrev s_reader_tokens : Stmt := top 11
abbrev N_reader_tokens : List Str := ["text", "found", "at", "end"]
abbrev s__law_begun : Stmt := top 13
abbrev N__law_begun : List Str := ["script", "large", "cell"]
abbrev s__law_blend : Stmt := top 14
abbrev N__law_blend : List Str := ["draw", "laps", "found", "prime", "stirred", "cell"]
abbrev s__law_take : Stmt := top 15
abbrev N__law_take : List Str := ["draw", "size", "found"]
abbrev s__law_pick : Stmt := top 16
abbrev N__law_pick : List Str := ["draw", "some"]
abbrev s__law_caught : Stmt := top 17
abbrev N__law_caught : List Str := ["work", "caught", "error"]
abbrev s__law_same : Stmt := top 18
abbrev N__law_same : List Str := ["one", "due"]
abbrev s__law_is_bad_text : Stmt := top 19
abbrev N__law_is_bad_text : List Str := ["work", "at", "error"]
abbrev s__law_joins : Stmt := top 20
abbrev N__law_joins : List Str := ["one", "other"]
abbrev s__law_spread : Stmt := top 21
abbrev N__law_spread : List Str := ["draw", "tokens", "text", "places", "last", "token"]
abbrev s__law_token : Stmt := top 22
abbrev N__law_token : List Str := ["draw", "way", "k"]
abbrev s__law_wrong_right : Stmt := top 23
abbrev N__law_wrong_right : List Str := ["draw", "tokens", "at", "places", "ahead", "behind", "odd", "row"]
abbrev s_law : Stmt := top 24
abbrev N_law : List Str := ["script", "turn", "tokens", "text", "places", "due", "much", "draw", "long", "k", "token", "place"]
def L0 : LamI := lamOf ["ahead", "behind", "odd"] [4, 5, 6] "_law_wrong_right.<locals>.<lambda>" (Pl.at (.ss (defBody s__law_wrong_right)) [4, 0, 0, 1, 0])
def ml0 : CE := (eCall 2 (lCons (eBin .add (eBin .add (eVar 0) (eVar 2)) (eVar 1)) lNil))
def L1 : LamI := lamOf ["ahead", "behind", "row"] [4, 5, 7] "_law_wrong_right.<locals>.<lambda>" (Pl.at (.ss (defBody s__law_wrong_right)) [7, 0, 1, 0])
def ml1 : CE := (eCall 2 (lCons (eBin .add (eBin .add (eBin .add (eVar 0) (eVar 2)) (eK (.str " "))) (eVar 1)) lNil))
def L2 : LamI := lamOf ["long"] [8] "law.<locals>.<lambda>" (Pl.at (.ss (defBody s_law)) [1, 1, 7, 0, 0, 0, 0, 1, 0, 1, 0])
def ml2 : CE := (eCall 2 (lCons (eVar 0) lNil))
def L3 : LamI := lamOf ["draw"] [7] "law.<locals>.<lambda>" (Pl.at (.ss (defBody s_law)) [1, 1, 8, 0, 0, 1, 0])
def ml3 : CE := (eCall 2 (lCons (eCall 6 (lCons (eVar 0) (lCons (eLst (lCons (eK .non) (lCons (eK (.int 5)) (lCons (eLst (lCons (eK (.str "a")) lNil)) (lCons (eTup (lCons (eK (.str "a")) (lCons (eK (.str "b")) lNil))) lNil))))) lNil))) lNil))
def m_end_of_row : CS := (sSeq (sWhile (eAnd (eCmp .lt (eVar 1) (eBi .len (lCons (eVar 0) lNil))) (eCmp .isin (eIx (eVar 0) (eVar 1)) (eVar 2))) (sAug 1 .add (eK (.int 1)))) (sRet (eVar 1)))
def m_token_end : CS := (sSeq (sIf (eCmp .isin (eIx (eVar 0) (eVar 1)) (eK (.str "abcdefghijklmnopqrstuvwxyz"))) (sRet (eCall 0 (lCons (eVar 0) (lCons (eVar 1) (lCons (eK (.str "abcdefghijklmnopqrstuvwxyz")) lNil))))) sPass) (sSeq (sIf (eCmp .isin (eIx (eVar 0) (eVar 1)) (eK (.str "0123456789"))) (sSeq (sAsg 2 (eCall 0 (lCons (eVar 0) (lCons (eVar 1) (lCons (eK (.str "0123456789")) lNil))))) (sRet (eIf (eAnd (eCmp .le (eBin .sub (eVar 2) (eVar 1)) (eK (.int 9))) (eOr (eCmp .ne (eIx (eVar 0) (eVar 1)) (eK (.str "0"))) (eCmp .eq (eVar 2) (eBin .add (eVar 1) (eK (.int 1)))))) (eVar 2) (eVar 1)))) sPass) (sRet (eIf (eCmp .isin (eIx (eVar 0) (eVar 1)) (eK (.str "(){}=,:;+-^/"))) (eBin .add (eVar 1) (eK (.int 1))) (eVar 1)))))
def m_reader_tokens : CS := (sSeq (sIf (eOr (eNot (eBi .isi (lCons (eVar 0) (lCons (eK (.ty "str")) lNil)))) (eCmp .gt (eBi .len (lCons (eVar 0) lNil)) (eK (.int 4000)))) (sRaise 1 (eK (.int 0))) sPass) (sSeq (sPar [1, 2] [.nil, .e (eK (.int 0))]) (sSeq (sWhile (eCmp .lt (eVar 2) (eBi .len (lCons (eVar 0) lNil))) (sSeq (sIf (eCmp .isin (eIx (eVar 0) (eVar 2)) (eK (.str " \n"))) (sSeq (sAug 2 .add (eK (.int 1))) sCont) sPass) (sSeq (sAsg 3 (eCall 1 (lCons (eVar 0) (lCons (eVar 2) lNil)))) (sSeq (sIf (eCmp .eq (eVar 3) (eVar 2)) (sRaise 1 (eVar 2)) sPass) (sSeq (sApp 1 (eTup (lCons (eSlice (eVar 0) (oSome (eVar 2)) (oSome (eVar 3))) (lCons (eVar 2) lNil)))) (sAsg 2 (eVar 3))))))) (sRet (eBi .tuple (lCons (eOwn 1) lNil))))))
def m__law_begun : CS := (sSeq (sAsgOwn 1 (eComp [2] (.name 2) (iOver (eVar 0)) (eCmp .ge (eBi .abs (lCons (eVar 2) lNil)) (eBin .pow (eK (.int 10)) (eK (.int 18)))) (eBin .sub (eBi .abs (lCons (eVar 2) lNil)) (eBin .pow (eK (.int 10)) (eK (.int 18)))))) (sBegun 1 (eComp [2] (.name 2) (iOver (eVar 0)) (eK (.bl true)) (eBi .abs (lCons (eVar 2) lNil)))))
def m__law_blend : CS := (sSeq (sPar [1, 2] [.e (eBin .add (eDr false 0) (eK (.int 1))), .e (eK (.int 0))]) (sSeq (sDr false 0 (eVar 1)) (sSeq (sFor (.name 3) (iOver (eLst (lCons (eK (.int 2147483629)) (lCons (eK (.int 2147483587)) (lCons (eK (.int 2147483579)) lNil))))) (sSeq (sAsg 4 (eBin .mod (eBi .int (lCons (eBin .add (eBin .mul (eVar 1) (eK (.int 69621))) (eBin .fdiv (eVar 3) (eK (.int 13)))) lNil)) (eVar 3))) (sSeq (sFor (.name 5) (iOver (eCells 0)) (sAsg 4 (eBin .mod (eBi .int (lCons (eBin .add (eBin .add (eBin .mul (eVar 4) (eK (.int 48271))) (eBi .int (lCons (eVar 5) lNil))) (eK (.int 5))) lNil)) (eVar 3)))) (sAsg 2 (eBin .add (eBin .mul (eVar 2) (eK (.int 2147483647))) (eBin .mod (eBi .int (lCons (eBin .pow (eVar 4) (eK (.int 5))) lNil)) (eVar 3))))))) (sRet (eVar 2)))))
def m__law_take : CS := (sSeq (sWhile (eAnd (eCmp .eq (eDr true 0) (eK (.int 0))) (eLargeNe 0)) (sDr true 0 (ePop 0))) (sSeq (sIf (eCmp .eq (eDr true 0) (eK (.int 0))) (sDr true 0 (eCall 4 (lCons (eVar 0) lNil))) sPass) (sSeq (sAsg 2 (eBin .mod (eBi .int (lCons (eDr true 0) lNil)) (eVar 1))) (sSeq (sDr true 0 (eBin .fdiv (eBi .int (lCons (eDr true 0) lNil)) (eVar 1))) (sRet (eVar 2))))))
def m__law_pick : CS := (sRet (eIx (eVar 1) (eCall 5 (lCons (eVar 0) (lCons (eBi .len (lCons (eVar 1) lNil)) lNil)))))
def m__law_caught : CS := (sSeq (sAsg 1 (eK .non)) (sSeq (sTry (eCallv 0) 0 2 1) (sRet (eVar 1))))
def m__law_same : CS := (sRet (eCmp .eq (eBi .repr (lCons (eVar 0) lNil)) (eBi .repr (lCons (eVar 1) lNil))))
def m__law_is_bad_text : CS := (sSeq (sAsg 2 (eCall 7 (lCons (eVar 0) lNil))) (sRet (eAnd (eBi .isi (lCons (eVar 2) (lCons (eK (.cls 1)) lNil))) (eCall 8 (lCons (eAttr [1] (eVar 2)) (lCons (eVar 1) lNil))))))
def m__law_joins : CS := (sRet (eOr (eAnd (eMe .isalpha (eVar 0) lNil) (eMe .isalpha (eVar 1) lNil)) (eAnd (eMe .isdigit (eVar 0) lNil) (eMe .isdigit (eVar 1) lNil))))
def m__law_spread : CS := (sSeq (sPar [2, 3, 4] [.e (eCall 6 (lCons (eVar 0) (lCons (eLst (lCons (eK (.str "")) (lCons (eK (.str " ")) (lCons (eK (.str "\n")) lNil)))) lNil))), .nil, .e (eK (.str ""))]) (sSeq (sFor (.name 5) (iOver (eVar 1)) (sSeq (sIf (eCall 10 (lCons (eVar 4) (lCons (eVar 5) lNil))) (sAsg 2 (eBin .add (eVar 2) (eCall 6 (lCons (eVar 0) (lCons (eLst (lCons (eK (.str " ")) (lCons (eK (.str "\n")) (lCons (eK (.str "  ")) lNil)))) lNil))))) (sAsg 2 (eBin .add (eVar 2) (eCall 6 (lCons (eVar 0) (lCons (eLst (lCons (eK (.str "")) (lCons (eK (.str "")) (lCons (eK (.str " ")) (lCons (eK (.str "\n")) lNil))))) lNil)))))) (sSeq (sApp 3 (eBi .len (lCons (eVar 2) lNil))) (sPar [2, 4] [.e (eBin .add (eVar 2) (eVar 5)), .e (eVar 5)])))) (sSeq (sFreeze 3) (sRet (eTup (lCons (eBin .add (eVar 2) (eCall 6 (lCons (eVar 0) (lCons (eLst (lCons (eK (.str "")) (lCons (eK (.str " ")) (lCons (eK (.str "\n")) lNil)))) lNil)))) (lCons (eVar 3) lNil)))))))
def m__law_token : CS := (sSeq (sAsg 1 (eCall 5 (lCons (eVar 0) (lCons (eK (.int 3)) lNil)))) (sSeq (sIf (eCmp .eq (eVar 1) (eK (.int 0))) (sRet (eMe .join (eK (.str "")) (lCons (eComp [2] (.name 2) (iRange (eBin .add (eK (.int 1)) (eCall 5 (lCons (eVar 0) (lCons (eK (.int 8)) lNil))))) (eK (.bl true)) (eCall 6 (lCons (eVar 0) (lCons (eBi .list (lCons (eK (.str "abcdefghijklmnopqrstuvwxyz")) lNil)) lNil)))) lNil))) sPass) (sSeq (sIf (eCmp .eq (eVar 1) (eK (.int 1))) (sRet (eCall 6 (lCons (eVar 0) (lCons (eLst (lCons (eK (.str "0")) (lCons (eK (.str "999999999")) (lCons (eBi .str (lCons (eBin .add (eK (.int 1)) (eCall 5 (lCons (eVar 0) (lCons (eK (.int 999999999)) lNil)))) lNil)) (lCons (eBi .str (lCons (eBin .add (eK (.int 1)) (eCall 5 (lCons (eVar 0) (lCons (eK (.int 9)) lNil)))) lNil)) lNil))))) lNil)))) sPass) (sRet (eCall 6 (lCons (eVar 0) (lCons (eBi .list (lCons (eK (.str "(){}=,:;+-^/")) lNil)) lNil)))))))
def m__law_wrong_right : CS := (sSeq (sAsg 2 (eCall 5 (lCons (eVar 0) (lCons (eBin .add (eBi .len (lCons (eVar 1) lNil)) (eK (.int 1))) lNil)))) (sSeq (sUnpack [4, 3] (eCall 11 (lCons (eVar 0) (lCons (eSlice (eVar 1) oNone (oSome (eVar 2))) lNil)))) (sSeq (sAsg 5 (eIx (eCall 11 (lCons (eVar 0) (lCons (eSlice (eVar 1) (oSome (eVar 2)) oNone) lNil))) (eK (.int 0)))) (sSeq (sAsg 6 (eCall 6 (lCons (eVar 0) (lCons (eLst (lCons (eK (.str "A")) (lCons (eK (.str "Z")) (lCons (eK (.str "_")) (lCons (eK (.str "*")) (lCons (eK (.str ".")) (lCons (eK (.str "!")) (lCons (eK (.str "~")) (lCons (eK (.str "&")) (lCons (eK (.str "<")) (lCons (eK (.str "[")) (lCons (eK (.str "'")) (lCons (eK (.str "#")) (lCons (eK (.str "$")) (lCons (eK (.str "@")) lNil))))))))))))))) lNil)))) (sSeq (sIf (eNot (eCall 9 (lCons (eLam 0) (lCons (eBi .len (lCons (eVar 4) lNil)) lNil)))) (sRet (eK (.bl false))) sPass) (sSeq (sAsg 4 (eBin .add (eVar 4) (eCall 6 (lCons (eVar 0) (lCons (eLst (lCons (eK (.str " ")) (lCons (eK (.str "\n")) (lCons (eK (.str "+")) (lCons (eK (.str ":")) lNil))))) lNil))))) (sSeq (sAsg 7 (eCall 6 (lCons (eVar 0) (lCons (eLst (lCons (eK (.str "00")) (lCons (eK (.str "01")) (lCons (eBin .add (eK (.str "0")) (eBi .str (lCons (eCall 5 (lCons (eVar 0) (lCons (eBin .pow (eK (.int 10)) (eK (.int 8))) lNil))) lNil))) (lCons (eBi .str (lCons (eBin .add (eBin .pow (eK (.int 10)) (eK (.int 9))) (eCall 5 (lCons (eVar 0) (lCons (eBin .mul (eK (.int 9)) (eBin .pow (eK (.int 10)) (eK (.int 9)))) lNil)))) lNil)) (lCons (eK (.str "1234567890123")) lNil)))))) lNil)))) (sRet (eCall 9 (lCons (eLam 1) (lCons (eBi .len (lCons (eVar 4) lNil)) lNil)))))))))))
def m_law : CS := (sSeq (sAsg 7 (eCall 3 (lCons (eVar 0) lNil))) (sSeq (sFor (.name 1) (iRange (eBin .add (eK (.int 3)) (eBi .min2 (lCons (eBi .len (lCons (eVar 0) lNil)) (lCons (eK (.int 5)) lNil))))) (sSeq (sAsg 2 (eComp [9] (.name 9) (iRange (eCall 5 (lCons (eVar 7) (lCons (eK (.int 14)) lNil)))) (eK (.bl true)) (eCall 12 (lCons (eVar 7) lNil)))) (sSeq (sUnpack [3, 4] (eCall 11 (lCons (eVar 7) (lCons (eVar 2) lNil)))) (sSeq (sAsg 5 (eBi .tuple (lCons (eComp [10, 11] (.names [10, 11]) (iZip (eVar 2) (eVar 4)) (eK (.bl true)) (eTup (lCons (eVar 10) (lCons (eVar 11) lNil)))) lNil))) (sSeq (sIf (eOr (eNot (eCall 8 (lCons (eCall 2 (lCons (eVar 3) lNil)) (lCons (eVar 5) lNil)))) (eNot (eCall 8 (lCons (eCall 2 (lCons (eBin .add (eVar 3) (eK (.str " \n "))) lNil)) (lCons (eVar 5) lNil))))) (sRet (eK (.bl false))) sPass) (sSeq (sIf (eNot (eCall 13 (lCons (eVar 7) (lCons (eVar 2) lNil)))) (sRet (eK (.bl false))) sPass) (sSeq (sAsg 6 (eCall 5 (lCons (eVar 7) (lCons (eK (.int 3)) lNil)))) (sSeq (sAsg 8 (eBin .add (eVar 3) (eBin .mul (eK (.str " ")) (eBin .sub (eBin .add (eK (.int 3999)) (eVar 6)) (eBi .len (lCons (eVar 3) lNil)))))) (sSeq (sIf (eOr (eAnd (eCmp .eq (eVar 6) (eK (.int 2))) (eNot (eCall 9 (lCons (eLam 2) (lCons (eK (.int 0)) lNil))))) (eAnd (eCmp .lt (eVar 6) (eK (.int 2))) (eNot (eCall 8 (lCons (eCall 2 (lCons (eVar 8) lNil)) (lCons (eVar 5) lNil)))))) (sRet (eK (.bl false))) sPass) (sIf (eNot (eCall 9 (lCons (eLam 3) (lCons (eK (.int 0)) lNil)))) (sRet (eK (.bl false))) sPass)))))))))) (sRet (eCall 8 (lCons (eCall 2 (lCons (eK (.str "")) lNil)) (lCons (eTup lNil) lNil))))))
def P : Prog where
  fns := fun f => match f with
    | 0 => some (.code 3 3 false m_end_of_row)
    | 1 => some (.code 2 3 false m_token_end)
    | 2 => some (.code 1 4 false m_reader_tokens)
    | 3 => some (.code 1 3 false m__law_begun)
    | 4 => some (.code 1 6 false m__law_blend)
    | 5 => some (.code 2 3 false m__law_take)
    | 6 => some (.code 2 2 false m__law_pick)
    | 7 => some (.code 1 3 false m__law_caught)
    | 8 => some (.code 2 2 false m__law_same)
    | 9 => some (.code 2 3 false m__law_is_bad_text)
    | 10 => some (.code 2 2 false m__law_joins)
    | 11 => some (.code 2 6 false m__law_spread)
    | 12 => some (.code 1 3 false m__law_token)
    | 13 => some (.code 2 8 true m__law_wrong_right)
    | 14 => some (.code 1 12 true m_law)
    | _ => none
  lams := fun b => match b with
    | 0 => some ([4, 5, 6], ml0)
    | 1 => some ([4, 5, 7], ml1)
    | 2 => some ([8], ml2)
    | 3 => some ([7], ml3)
    | _ => none
  sub := fun a b => match a, b with
    | 0, 0 => some true
    | 0, 1 => some false
    | 1, 0 => some true
    | 1, 1 => some true
    | _, _ => none
def Ls : List LamI := [L0, L1, L2, L3]
structure Txt (Γ : Gam) : Prop where
  f_end_of_row : HasF Γ 0 "end_of_row"
  f_token_end : HasF Γ 1 "token_end"
  f_reader_tokens : HasF Γ 2 "reader_tokens"
  f__law_begun : HasF Γ 3 "_law_begun"
  f__law_blend : HasF Γ 4 "_law_blend"
  f__law_take : HasF Γ 5 "_law_take"
  f__law_pick : HasF Γ 6 "_law_pick"
  f__law_caught : HasF Γ 7 "_law_caught"
  f__law_same : HasF Γ 8 "_law_same"
  f__law_is_bad_text : HasF Γ 9 "_law_is_bad_text"
  f__law_joins : HasF Γ 10 "_law_joins"
  f__law_spread : HasF Γ 11 "_law_spread"
  f__law_token : HasF Γ 12 "_law_token"
  f__law_wrong_right : HasF Γ 13 "_law_wrong_right"
  f_law : HasF Γ 14 "law"
  h_reader_tokens_0 : HasK Γ 2 "reader_tokens" ["text"]
  c_MOST_SIGNS : GlD Γ "MOST_SIGNS" (.int 4000)
  c_MOST_FIGURES : GlD Γ "MOST_FIGURES" (.int 9)
  c_SMALL : GlD Γ "SMALL" (.str "abcdefghijklmnopqrstuvwxyz")
  c_FIGURES : GlD Γ "FIGURES" (.str "0123456789")
  c_SIGNS : GlD Γ "SIGNS" (.str "(){}=,:;+-^/")
  k_BadText : GlD Γ "BadText" (.cls 1)
  m_abs : Γ.mg "abs" = none
  m_int : Γ.mg "int" = none
  m_isinstance : Γ.mg "isinstance" = none
  m_len : Γ.mg "len" = none
  m_list : Γ.mg "list" = none
  m_min : Γ.mg "min" = none
  m_range : Γ.mg "range" = none
  m_repr : Γ.mg "repr" = none
  m_str : Γ.mg "str" = none
  m_tuple : Γ.mg "tuple" = none
  m_zip : Γ.mg "zip" = none
  e_BadText : ErrK Γ 1 "BadText" "at"
  fld_at : ∀ c ∈ [1], ∀ C fo, Γ.ca c = some (C, fo) → fo = some "at"
  l_0 : Γ.li 0 = some L0
  t__law_wrong_right_0 : ∀ c Pa, Γ.tb "_law_wrong_right.<locals>." = some (c, Pa) → (Pa, L0.qual) ∈ Γ.T ∧ ∀ p ∈ Γ.T, p.1 = Pa → p.2 = L0.qual
  l_1 : Γ.li 1 = some L1
  t__law_wrong_right_1 : ∀ c Pa, Γ.tb "_law_wrong_right.<locals>." = some (c, Pa) → (Pa, L1.qual) ∈ Γ.T ∧ ∀ p ∈ Γ.T, p.1 = Pa → p.2 = L1.qual
  l_2 : Γ.li 2 = some L2
  t_law_2 : ∀ c Pa, Γ.tb "law.<locals>." = some (c, Pa) → (Pa, L2.qual) ∈ Γ.T ∧ ∀ p ∈ Γ.T, p.1 = Pa → p.2 = L2.qual
  l_3 : Γ.li 3 = some L3
  t_law_3 : ∀ c Pa, Γ.tb "law.<locals>." = some (c, Pa) → (Pa, L3.qual) ∈ Γ.T ∧ ∀ p ∈ Γ.T, p.1 = Pa → p.2 = L3.qual
  li : Γ.li = fun b => Ls[b]?
  tr_ReadError : ∃ C fo, Γ.ca 0 = some (C, fo) ∧ Γ.mg "ReadError" = some (.ref C)
section
variable {Γ : Gam} {n : Nat}
theorem kl0 (T : Txt Γ) (k : Nat) : SE ⟨Γ, P, n, k, false, L0.N, L0.scope, L0.qual, fun _ => true⟩ L0.body ml0 :=
  (se_call T.f_reader_tokens (by dsimp only [Sn.blk]; decide +kernel) (sl_cons (se_bin (op := .add) (se_bin (op := .add) (se_var (nm_by (by dsimp only [Sn.blk]; decide +kernel))) (se_var (nm_by (by dsimp only [Sn.blk]; decide +kernel)))) (se_var (nm_by (by dsimp only [Sn.blk]; decide +kernel)))) sl_nil (fun _ => rfl)) (fun _ => rfl) (fun _ => rfl))
theorem lt0 : LamT L0 := ⟨NdefX.nscope_by (by decide +kernel), fun _ _ _ _ _ => rfl⟩
theorem kl1 (T : Txt Γ) (k : Nat) : SE ⟨Γ, P, n, k, false, L1.N, L1.scope, L1.qual, fun _ => true⟩ L1.body ml1 :=
  (se_call T.f_reader_tokens (by dsimp only [Sn.blk]; decide +kernel) (sl_cons (se_bin (op := .add) (se_bin (op := .add) (se_bin (op := .add) (se_var (nm_by (by dsimp only [Sn.blk]; decide +kernel))) (se_var (nm_by (by dsimp only [Sn.blk]; decide +kernel)))) se_str) (se_var (nm_by (by dsimp only [Sn.blk]; decide +kernel)))) sl_nil (fun _ => rfl)) (fun _ => rfl) (fun _ => rfl))
theorem lt1 : LamT L1 := ⟨NdefX.nscope_by (by decide +kernel), fun _ _ _ _ _ => rfl⟩
theorem kl2 (T : Txt Γ) (k : Nat) : SE ⟨Γ, P, n, k, false, L2.N, L2.scope, L2.qual, fun _ => true⟩ L2.body ml2 :=
  (se_call T.f_reader_tokens (by dsimp only [Sn.blk]; decide +kernel) (sl_cons (se_var (nm_by (by dsimp only [Sn.blk]; decide +kernel))) sl_nil (fun _ => rfl)) (fun _ => rfl) (fun _ => rfl))
theorem lt2 : LamT L2 := ⟨NdefX.nscope_by (by decide +kernel), fun _ _ _ _ _ => rfl⟩
theorem kl3 (T : Txt Γ) (k : Nat) : SE ⟨Γ, P, n, k, false, L3.N, L3.scope, L3.qual, fun _ => true⟩ L3.body ml3 :=
  (se_call T.f_reader_tokens (by dsimp only [Sn.blk]; decide +kernel) (sl_cons (se_call T.f__law_pick (by dsimp only [Sn.blk]; decide +kernel) (sl_cons (se_var (nm_by (by dsimp only [Sn.blk]; decide +kernel))) (sl_cons (se_lst (sl_cons se_non (sl_cons se_int (sl_cons (se_lst (sl_cons se_str sl_nil (fun _ => rfl))) (sl_cons (se_tup (sl_cons se_str (sl_cons se_str sl_nil (fun _ => rfl)) (fun _ => rfl))) sl_nil (fun _ => rfl)) (fun _ => rfl)) (fun _ => rfl)) (fun _ => rfl))) sl_nil (fun _ => rfl)) (fun _ => rfl)) (fun _ => rfl) (fun _ => rfl)) sl_nil (fun _ => rfl)) (fun _ => rfl) (fun _ => rfl))
theorem lt3 : LamT L3 := ⟨NdefX.nscope_by (by decide +kernel), fun _ _ _ _ _ => rfl⟩
theorem lamsOk (T : Txt Γ) (k : Nat) : LamsOk Γ P n k := by
  intro b l h
  rw [T.li] at h
  have h : Ls[b]? = some l := h
  match b, h with
  | 0, h => cases h; exact ⟨ml0, rfl, lt0, fun k' _ => kl0 T k'⟩
  | 1, h => cases h; exact ⟨ml1, rfl, lt1, fun k' _ => kl1 T k'⟩
  | 2, h => cases h; exact ⟨ml2, rfl, lt2, fun k' _ => kl2 T k'⟩
  | 3, h => cases h; exact ⟨ml3, rfl, lt3, fun k' _ => kl3 T k'⟩
  | b + 4, h => simp [Ls] at h
theorem k_end_of_row (T : Txt Γ) (k : Nat) : SSs ⟨Γ, P, n, k, false, N_end_of_row, defScope s_end_of_row, "end_of_row.<locals>.", fun _ => true⟩ (defBody s_end_of_row) m_end_of_row := by
  exact (sss_cons (ss_while (SW.st (sw_and (st_cmp (op := .lt) (SE.so (se_var (nm_by (by dsimp only [Sn.blk]; decide +kernel)))) (SE.so (se_bi (b := .len) T.m_len rfl (by dsimp only [Sn.blk]; decide +kernel) (slo_cons (SE.so (se_var (nm_by (by dsimp only [Sn.blk]; decide +kernel)))) slo_nil (fun _ => rfl)) (fun _ => rfl) (fun _ => rfl))) rfl) (sw_one (st_cmp (op := .isin) (SE.so (se_ix (SE.so (se_var (nm_by (by dsimp only [Sn.blk]; decide +kernel)))) (se_var (nm_by (by dsimp only [Sn.blk]; decide +kernel))) (fun _ _ => rfl))) (SE.so (se_var (nm_by (by dsimp only [Sn.blk]; decide +kernel)))) rfl)))) (sss_one (ss_aug (op := .add) (nw_by (by dsimp only [Sn.blk]; decide +kernel)) se_int))) (sss_one (ss_ret (se_var (nm_by (by dsimp only [Sn.blk]; decide +kernel))))))
theorem k_token_end (T : Txt Γ) (k : Nat) : SSs ⟨Γ, P, n, k, false, N_token_end, defScope s_token_end, "token_end.<locals>.", fun _ => true⟩ (defBody s_token_end) m_token_end := by
  exact (sss_cons (ss_if (st_cmp (op := .isin) (SE.so (se_ix (SE.so (se_var (nm_by (by dsimp only [Sn.blk]; decide +kernel)))) (se_var (nm_by (by dsimp only [Sn.blk]; decide +kernel))) (fun _ _ => rfl))) (SE.so (se_glob T.c_SMALL (by dsimp only [Sn.blk]; decide +kernel))) rfl) (sss_one (ss_ret (se_call T.f_end_of_row (by dsimp only [Sn.blk]; decide +kernel) (sl_cons (se_var (nm_by (by dsimp only [Sn.blk]; decide +kernel))) (sl_cons (se_var (nm_by (by dsimp only [Sn.blk]; decide +kernel))) (sl_cons (se_glob T.c_SMALL (by dsimp only [Sn.blk]; decide +kernel)) sl_nil (fun _ => rfl)) (fun _ => rfl)) (fun _ => rfl)) (fun _ => rfl) (fun _ => rfl)))) sss_nil) (sss_cons (ss_if (st_cmp (op := .isin) (SE.so (se_ix (SE.so (se_var (nm_by (by dsimp only [Sn.blk]; decide +kernel)))) (se_var (nm_by (by dsimp only [Sn.blk]; decide +kernel))) (fun _ _ => rfl))) (SE.so (se_glob T.c_FIGURES (by dsimp only [Sn.blk]; decide +kernel))) rfl) (sss_cons (ss_set (nw_by (by dsimp only [Sn.blk]; decide +kernel)) (se_call T.f_end_of_row (by dsimp only [Sn.blk]; decide +kernel) (sl_cons (se_var (nm_by (by dsimp only [Sn.blk]; decide +kernel))) (sl_cons (se_var (nm_by (by dsimp only [Sn.blk]; decide +kernel))) (sl_cons (se_glob T.c_FIGURES (by dsimp only [Sn.blk]; decide +kernel)) sl_nil (fun _ => rfl)) (fun _ => rfl)) (fun _ => rfl)) (fun _ => rfl) (fun _ => rfl)) (fun _ => rfl)) (sss_one (ss_ret (se_if (SW.st (sw_and (st_cmp (op := .le) (SE.so (se_bin (op := .sub) (se_var (nm_by (by dsimp only [Sn.blk]; decide +kernel))) (se_var (nm_by (by dsimp only [Sn.blk]; decide +kernel))))) (SE.so (se_glob T.c_MOST_FIGURES (by dsimp only [Sn.blk]; decide +kernel))) rfl) (sw_one (SW.st (sw_or (st_cmp (op := .ne) (SE.so (se_ix (SE.so (se_var (nm_by (by dsimp only [Sn.blk]; decide +kernel)))) (se_var (nm_by (by dsimp only [Sn.blk]; decide +kernel))) (fun _ _ => rfl))) (SE.so se_str) rfl) (sw_one (st_cmp (op := .eq) (SE.so (se_var (nm_by (by dsimp only [Sn.blk]; decide +kernel)))) (SE.so (se_bin (op := .add) (se_var (nm_by (by dsimp only [Sn.blk]; decide +kernel))) se_int)) rfl))))))) (se_var (nm_by (by dsimp only [Sn.blk]; decide +kernel))) (se_var (nm_by (by dsimp only [Sn.blk]; decide +kernel))))))) sss_nil) (sss_one (ss_ret (se_if (st_cmp (op := .isin) (SE.so (se_ix (SE.so (se_var (nm_by (by dsimp only [Sn.blk]; decide +kernel)))) (se_var (nm_by (by dsimp only [Sn.blk]; decide +kernel))) (fun _ _ => rfl))) (SE.so (se_glob T.c_SIGNS (by dsimp only [Sn.blk]; decide +kernel))) rfl) (se_bin (op := .add) (se_var (nm_by (by dsimp only [Sn.blk]; decide +kernel))) se_int) (se_var (nm_by (by dsimp only [Sn.blk]; decide +kernel))))))))
theorem k_reader_tokens (T : Txt Γ) (k : Nat) : SSs ⟨Γ, P, n, k, false, N_reader_tokens, defScope s_reader_tokens, "reader_tokens.<locals>.", fun _ => true⟩ (defBody s_reader_tokens) m_reader_tokens := by
  exact (sss_cons (ss_if (SW.st (sw_or (st_not (st_val (se_bi (b := .isi) T.m_isinstance rfl (by dsimp only [Sn.blk]; decide +kernel) (slo_cons (SE.so (se_var (nm_by (by dsimp only [Sn.blk]; decide +kernel)))) (slo_cons (SE.so (se_ty T.m_str rfl (by dsimp only [Sn.blk]; decide +kernel))) slo_nil (fun _ => rfl)) (fun _ => rfl)) (fun _ => rfl) (fun _ => rfl)) (fun _ _ => rfl))) (sw_one (st_cmp (op := .gt) (SE.so (se_bi (b := .len) T.m_len rfl (by dsimp only [Sn.blk]; decide +kernel) (slo_cons (SE.so (se_var (nm_by (by dsimp only [Sn.blk]; decide +kernel)))) slo_nil (fun _ => rfl)) (fun _ => rfl) (fun _ => rfl))) (SE.so (se_glob T.c_MOST_SIGNS (by dsimp only [Sn.blk]; decide +kernel))) rfl)))) (sss_one (ss_raise T.e_BadText (by dsimp only [Sn.blk]; decide +kernel) se_int (fun _ => rfl) (fun _ => rfl))) sss_nil) (sss_cons (ss_par2 (nw_by (by dsimp only [Sn.blk]; decide +kernel)) (nw_by (by dsimp only [Sn.blk]; decide +kernel)) (by decide) (by first | decide +kernel | (dsimp only [Sn.blk]; decide +kernel)) (by first | decide +kernel | (dsimp only [Sn.blk]; decide +kernel)) (spar_l (spar_e se_int spar_nil (fun _ => rfl)) (fun _ => rfl)) rfl (fun _ => rfl)) (sss_cons (ss_while (st_cmp (op := .lt) (SE.so (se_var (nm_by (by dsimp only [Sn.blk]; decide +kernel)))) (SE.so (se_bi (b := .len) T.m_len rfl (by dsimp only [Sn.blk]; decide +kernel) (slo_cons (SE.so (se_var (nm_by (by dsimp only [Sn.blk]; decide +kernel)))) slo_nil (fun _ => rfl)) (fun _ => rfl) (fun _ => rfl))) rfl) (sss_cons (ss_if (st_cmp (op := .isin) (SE.so (se_ix (SE.so (se_var (nm_by (by dsimp only [Sn.blk]; decide +kernel)))) (se_var (nm_by (by dsimp only [Sn.blk]; decide +kernel))) (fun _ _ => rfl))) (SE.so se_str) rfl) (sss_cons (ss_aug (op := .add) (nw_by (by dsimp only [Sn.blk]; decide +kernel)) se_int) (sss_one ss_cont)) sss_nil) (sss_cons (ss_set (nw_by (by dsimp only [Sn.blk]; decide +kernel)) (se_call T.f_token_end (by dsimp only [Sn.blk]; decide +kernel) (sl_cons (se_var (nm_by (by dsimp only [Sn.blk]; decide +kernel))) (sl_cons (se_var (nm_by (by dsimp only [Sn.blk]; decide +kernel))) sl_nil (fun _ => rfl)) (fun _ => rfl)) (fun _ => rfl) (fun _ => rfl)) (fun _ => rfl)) (sss_cons (ss_if (st_cmp (op := .eq) (SE.so (se_var (nm_by (by dsimp only [Sn.blk]; decide +kernel)))) (SE.so (se_var (nm_by (by dsimp only [Sn.blk]; decide +kernel)))) rfl) (sss_one (ss_raise T.e_BadText (by dsimp only [Sn.blk]; decide +kernel) (se_var (nm_by (by dsimp only [Sn.blk]; decide +kernel))) (fun _ => rfl) (fun _ => rfl))) sss_nil) (sss_cons (ss_app (nm_by (by dsimp only [Sn.blk]; decide +kernel)) (se_tup (sl_cons (se_slice (SE.so (se_var (nm_by (by dsimp only [Sn.blk]; decide +kernel)))) (sp_some (se_var (nm_by (by dsimp only [Sn.blk]; decide +kernel)))) (sp_some (se_var (nm_by (by dsimp only [Sn.blk]; decide +kernel))))) (sl_cons (se_var (nm_by (by dsimp only [Sn.blk]; decide +kernel))) sl_nil (fun _ => rfl)) (fun _ => rfl))) (fun _ => rfl) (fun _ => rfl) rfl (fun _ => rfl) (fun _ => rfl) (fun _ => rfl)) (sss_one (ss_set (nw_by (by dsimp only [Sn.blk]; decide +kernel)) (se_var (nm_by (by dsimp only [Sn.blk]; decide +kernel))) (fun _ => rfl)))))))) (sss_one (ss_ret (se_bi (b := .tuple) T.m_tuple rfl (by dsimp only [Sn.blk]; decide +kernel) (slo_cons (so_own (nm_by (by dsimp only [Sn.blk]; decide +kernel))) slo_nil (fun _ => rfl)) (fun _ => rfl) (fun _ => rfl)))))))
theorem k__law_begun (T : Txt Γ) (k : Nat) : SSs ⟨Γ, P, n, k, false, N__law_begun, defScope s__law_begun, "_law_begun.<locals>.", fun _ => true⟩ (defBody s__law_begun) m__law_begun := by
  exact (sss_cons (ss_setLcOwn (own := [("cell", 2)]) (nw_by (by dsimp only [Sn.blk]; decide +kernel)) rfl (by first | decide +kernel | (dsimp only [Sn.blk]; decide +kernel)) rfl (by first | decide +kernel | (dsimp only [Sn.blk]; decide +kernel)) (si_over (se_var (nm_by (by dsimp only [Sn.blk]; decide +kernel)))) (by first | decide +kernel | (dsimp only [Sn.blk]; decide +kernel)) (sg_name (nw_by (by dsimp only [Sn.blk]; decide +kernel))) (sts_one (st_cmp (op := .ge) (SE.so (se_bi (b := .abs) T.m_abs rfl (by dsimp only [Sn.blk]; decide +kernel) (slo_cons (SE.so (se_var (nm_by (by dsimp only [Sn.blk]; decide +kernel)))) slo_nil (fun _ => rfl)) (fun _ => rfl) (fun _ => rfl))) (SE.so (se_bin (op := .pow) se_int se_int)) rfl)) (se_bin (op := .sub) (se_bi (b := .abs) T.m_abs rfl (by dsimp only [Sn.blk]; decide +kernel) (slo_cons (SE.so (se_var (nm_by (by dsimp only [Sn.blk]; decide +kernel)))) slo_nil (fun _ => rfl)) (fun _ => rfl) (fun _ => rfl)) (se_bin (op := .pow) se_int se_int)) (by decide) (fun _ _ => rfl)) (sss_one (ss_begun (nm_by (by dsimp only [Sn.blk]; decide +kernel)) (se_comp (own := [("cell", 2)]) (si_over (se_var (nm_by (by dsimp only [Sn.blk]; decide +kernel)))) (by dsimp only [Sn.blk]; decide +kernel) (sg_name (nw_by (by dsimp only [Sn.blk]; decide +kernel))) sts_nil (se_bi (b := .abs) T.m_abs rfl (by dsimp only [Sn.blk]; decide +kernel) (slo_cons (SE.so (se_var (nm_by (by dsimp only [Sn.blk]; decide +kernel)))) slo_nil (fun _ => rfl)) (fun _ => rfl) (fun _ => rfl)) (by decide) (fun _ _ => rfl)))))
theorem k__law_blend (T : Txt Γ) (k : Nat) : SSs ⟨Γ, P, n, k, false, N__law_blend, defScope s__law_blend, "_law_blend.<locals>.", fun _ => true⟩ (defBody s__law_blend) m__law_blend := by
  exact (sss_cons (ss_par2 (nw_by (by dsimp only [Sn.blk]; decide +kernel)) (nw_by (by dsimp only [Sn.blk]; decide +kernel)) (by decide) (by first | decide +kernel | (dsimp only [Sn.blk]; decide +kernel)) (by first | decide +kernel | (dsimp only [Sn.blk]; decide +kernel)) (spar_e (se_bin (op := .add) (se_turn (nm_by (by dsimp only [Sn.blk]; decide +kernel))) se_int) (spar_e se_int spar_nil (fun _ => rfl)) (fun _ => rfl)) rfl (fun _ => rfl)) (sss_cons (ss_turn (nm_by (by dsimp only [Sn.blk]; decide +kernel)) (se_var (nm_by (by dsimp only [Sn.blk]; decide +kernel))) (fun _ => rfl)) (sss_cons (ss_for (fun _ _ => rfl) (si_over (se_lst (sl_cons se_int (sl_cons se_int (sl_cons se_int sl_nil (fun _ => rfl)) (fun _ => rfl)) (fun _ => rfl)))) (sg_name (nw_by (by dsimp only [Sn.blk]; decide +kernel))) (sss_cons (ss_set (nw_by (by dsimp only [Sn.blk]; decide +kernel)) (se_bin (op := .mod) (se_bi (b := .int) T.m_int rfl (by dsimp only [Sn.blk]; decide +kernel) (slo_cons (SE.so (se_bin (op := .add) (se_bin (op := .mul) (se_var (nm_by (by dsimp only [Sn.blk]; decide +kernel))) se_int) (se_bin (op := .fdiv) (se_var (nm_by (by dsimp only [Sn.blk]; decide +kernel))) se_int))) slo_nil (fun _ => rfl)) (fun _ => rfl) (fun _ => rfl)) (se_var (nm_by (by dsimp only [Sn.blk]; decide +kernel)))) (fun _ => rfl)) (sss_cons (ss_for (fun _ _ => rfl) (si_over (se_cells (nm_by (by dsimp only [Sn.blk]; decide +kernel)))) (sg_name (nw_by (by dsimp only [Sn.blk]; decide +kernel))) (sss_one (ss_set (nw_by (by dsimp only [Sn.blk]; decide +kernel)) (se_bin (op := .mod) (se_bi (b := .int) T.m_int rfl (by dsimp only [Sn.blk]; decide +kernel) (slo_cons (SE.so (se_bin (op := .add) (se_bin (op := .add) (se_bin (op := .mul) (se_var (nm_by (by dsimp only [Sn.blk]; decide +kernel))) se_int) (se_bi (b := .int) T.m_int rfl (by dsimp only [Sn.blk]; decide +kernel) (slo_cons (SE.so (se_var (nm_by (by dsimp only [Sn.blk]; decide +kernel)))) slo_nil (fun _ => rfl)) (fun _ => rfl) (fun _ => rfl))) se_int)) slo_nil (fun _ => rfl)) (fun _ => rfl) (fun _ => rfl)) (se_var (nm_by (by dsimp only [Sn.blk]; decide +kernel)))) (fun _ => rfl)))) (sss_one (ss_set (nw_by (by dsimp only [Sn.blk]; decide +kernel)) (se_bin (op := .add) (se_bin (op := .mul) (se_var (nm_by (by dsimp only [Sn.blk]; decide +kernel))) se_int) (se_bin (op := .mod) (se_bi (b := .int) T.m_int rfl (by dsimp only [Sn.blk]; decide +kernel) (slo_cons (SE.so (se_bin (op := .pow) (se_var (nm_by (by dsimp only [Sn.blk]; decide +kernel))) se_int)) slo_nil (fun _ => rfl)) (fun _ => rfl) (fun _ => rfl)) (se_var (nm_by (by dsimp only [Sn.blk]; decide +kernel))))) (fun _ => rfl)))))) (sss_one (ss_ret (se_var (nm_by (by dsimp only [Sn.blk]; decide +kernel))))))))
theorem k__law_take (T : Txt Γ) (k : Nat) : SSs ⟨Γ, P, n, k, false, N__law_take, defScope s__law_take, "_law_take.<locals>.", fun _ => true⟩ (defBody s__law_take) m__law_take := by
  exact (sss_cons (ss_while (SW.st (sw_and (st_cmp (op := .eq) (SE.so (se_rest (nm_by (by dsimp only [Sn.blk]; decide +kernel)))) (SE.so se_int) rfl) (sw_one (st_largeNe (nm_by (by dsimp only [Sn.blk]; decide +kernel)) rfl)))) (sss_one (ss_rest (nm_by (by dsimp only [Sn.blk]; decide +kernel)) (se_pop (nm_by (by dsimp only [Sn.blk]; decide +kernel)) (fun _ => rfl) (fun _ => rfl) rfl (fun _ => rfl) (fun _ => rfl) (fun _ => rfl)) (fun _ => rfl)))) (sss_cons (ss_if (st_cmp (op := .eq) (SE.so (se_rest (nm_by (by dsimp only [Sn.blk]; decide +kernel)))) (SE.so se_int) rfl) (sss_one (ss_rest (nm_by (by dsimp only [Sn.blk]; decide +kernel)) (se_call T.f__law_blend (by dsimp only [Sn.blk]; decide +kernel) (sl_cons (se_var (nm_by (by dsimp only [Sn.blk]; decide +kernel))) sl_nil (fun _ => rfl)) (fun _ => rfl) (fun _ => rfl)) (fun _ => rfl))) sss_nil) (sss_cons (ss_set (nw_by (by dsimp only [Sn.blk]; decide +kernel)) (se_bin (op := .mod) (se_bi (b := .int) T.m_int rfl (by dsimp only [Sn.blk]; decide +kernel) (slo_cons (SE.so (se_rest (nm_by (by dsimp only [Sn.blk]; decide +kernel)))) slo_nil (fun _ => rfl)) (fun _ => rfl) (fun _ => rfl)) (se_var (nm_by (by dsimp only [Sn.blk]; decide +kernel)))) (fun _ => rfl)) (sss_cons (ss_rest (nm_by (by dsimp only [Sn.blk]; decide +kernel)) (se_bin (op := .fdiv) (se_bi (b := .int) T.m_int rfl (by dsimp only [Sn.blk]; decide +kernel) (slo_cons (SE.so (se_rest (nm_by (by dsimp only [Sn.blk]; decide +kernel)))) slo_nil (fun _ => rfl)) (fun _ => rfl) (fun _ => rfl)) (se_var (nm_by (by dsimp only [Sn.blk]; decide +kernel)))) (fun _ => rfl)) (sss_one (ss_ret (se_var (nm_by (by dsimp only [Sn.blk]; decide +kernel)))))))))
theorem k__law_pick (T : Txt Γ) (k : Nat) : SSs ⟨Γ, P, n, k, false, N__law_pick, defScope s__law_pick, "_law_pick.<locals>.", fun _ => true⟩ (defBody s__law_pick) m__law_pick := by
  exact (sss_one (ss_ret (se_ix (SE.so (se_var (nm_by (by dsimp only [Sn.blk]; decide +kernel)))) (se_call T.f__law_take (by dsimp only [Sn.blk]; decide +kernel) (sl_cons (se_var (nm_by (by dsimp only [Sn.blk]; decide +kernel))) (sl_cons (se_bi (b := .len) T.m_len rfl (by dsimp only [Sn.blk]; decide +kernel) (slo_cons (SE.so (se_var (nm_by (by dsimp only [Sn.blk]; decide +kernel)))) slo_nil (fun _ => rfl)) (fun _ => rfl) (fun _ => rfl)) sl_nil (fun _ => rfl)) (fun _ => rfl)) (fun _ => rfl) (fun _ => rfl)) (fun _ _ => rfl))))
theorem k__law_caught (T : Txt Γ) (k : Nat) (LO : LamsOk Γ P n k) : SSs ⟨Γ, P, n, k, false, N__law_caught, defScope s__law_caught, "_law_caught.<locals>.", fun _ => true⟩ (defBody s__law_caught) m__law_caught := by
  obtain ⟨C_ReadError, fo_ReadError, ca_ReadError, g_ReadError⟩ := T.tr_ReadError
  exact (sss_cons (ss_set (nw_by (by dsimp only [Sn.blk]; decide +kernel)) se_non (fun _ => rfl)) (sss_cons (ss_try (se_callv LO (nm_by (by dsimp only [Sn.blk]; decide +kernel))) (fun _ => rfl) rfl (by first | decide +kernel | (dsimp only [Sn.blk]; decide +kernel)) (nm_by (by dsimp only [Sn.blk]; decide +kernel)) (nw_by (by dsimp only [Sn.blk]; decide +kernel)) ca_ReadError (by dsimp only [Sn.blk]; decide +kernel) g_ReadError) (sss_one (ss_ret (se_var (nm_by (by dsimp only [Sn.blk]; decide +kernel)))))))
theorem k__law_same (T : Txt Γ) (k : Nat) : SSs ⟨Γ, P, n, k, false, N__law_same, defScope s__law_same, "_law_same.<locals>.", fun _ => true⟩ (defBody s__law_same) m__law_same := by
  exact (sss_one (ss_ret (se_cmp (op := .eq) (SE.so (se_bi (b := .repr) T.m_repr rfl (by dsimp only [Sn.blk]; decide +kernel) (slo_cons (SE.so (se_var (nm_by (by dsimp only [Sn.blk]; decide +kernel)))) slo_nil (fun _ => rfl)) (fun _ => rfl) (fun _ => rfl))) (SE.so (se_bi (b := .repr) T.m_repr rfl (by dsimp only [Sn.blk]; decide +kernel) (slo_cons (SE.so (se_var (nm_by (by dsimp only [Sn.blk]; decide +kernel)))) slo_nil (fun _ => rfl)) (fun _ => rfl) (fun _ => rfl))) rfl)))
theorem k__law_is_bad_text (T : Txt Γ) (k : Nat) : SSs ⟨Γ, P, n, k, false, N__law_is_bad_text, defScope s__law_is_bad_text, "_law_is_bad_text.<locals>.", fun _ => true⟩ (defBody s__law_is_bad_text) m__law_is_bad_text := by
  exact (sss_cons (ss_set (nw_by (by dsimp only [Sn.blk]; decide +kernel)) (se_call T.f__law_caught (by dsimp only [Sn.blk]; decide +kernel) (sl_cons (se_var (nm_by (by dsimp only [Sn.blk]; decide +kernel))) sl_nil (fun _ => rfl)) (fun _ => rfl) (fun _ => rfl)) (fun _ => rfl)) (sss_one (ss_ret (se_and (se_bi (b := .isi) T.m_isinstance rfl (by dsimp only [Sn.blk]; decide +kernel) (slo_cons (SE.so (se_var (nm_by (by dsimp only [Sn.blk]; decide +kernel)))) (slo_cons (SE.so (se_glob T.k_BadText (by dsimp only [Sn.blk]; decide +kernel))) slo_nil (fun _ => rfl)) (fun _ => rfl)) (fun _ => rfl) (fun _ => rfl)) (se_one (se_call T.f__law_same (by dsimp only [Sn.blk]; decide +kernel) (sl_cons (se_attr T.fld_at (se_var (nm_by (by dsimp only [Sn.blk]; decide +kernel))) (fun _ => rfl)) (sl_cons (se_var (nm_by (by dsimp only [Sn.blk]; decide +kernel))) sl_nil (fun _ => rfl)) (fun _ => rfl)) (fun _ => rfl) (fun _ => rfl)))))))
theorem k__law_joins (T : Txt Γ) (k : Nat) : SSs ⟨Γ, P, n, k, false, N__law_joins, defScope s__law_joins, "_law_joins.<locals>.", fun _ => true⟩ (defBody s__law_joins) m__law_joins := by
  exact (sss_one (ss_ret (se_or (se_and (se_alpha (SE.so (se_var (nm_by (by dsimp only [Sn.blk]; decide +kernel)))) (fun _ => rfl) rfl) (se_one (se_alpha (SE.so (se_var (nm_by (by dsimp only [Sn.blk]; decide +kernel)))) (fun _ => rfl) rfl))) (se_one (se_and (se_digit (SE.so (se_var (nm_by (by dsimp only [Sn.blk]; decide +kernel)))) (fun _ => rfl) rfl) (se_one (se_digit (SE.so (se_var (nm_by (by dsimp only [Sn.blk]; decide +kernel)))) (fun _ => rfl) rfl)))))))
theorem k__law_spread (T : Txt Γ) (k : Nat) : SSs ⟨Γ, P, n, k, false, N__law_spread, defScope s__law_spread, "_law_spread.<locals>.", fun _ => true⟩ (defBody s__law_spread) m__law_spread := by
  exact (sss_cons (ss_par3 (nw_by (by dsimp only [Sn.blk]; decide +kernel)) (nw_by (by dsimp only [Sn.blk]; decide +kernel)) (nw_by (by dsimp only [Sn.blk]; decide +kernel)) (by decide) (by decide) (by decide) (by first | decide +kernel | (dsimp only [Sn.blk]; decide +kernel)) (by first | decide +kernel | (dsimp only [Sn.blk]; decide +kernel)) (by first | decide +kernel | (dsimp only [Sn.blk]; decide +kernel)) (spar_e (se_call T.f__law_pick (by dsimp only [Sn.blk]; decide +kernel) (sl_cons (se_var (nm_by (by dsimp only [Sn.blk]; decide +kernel))) (sl_cons (se_lst (sl_cons se_str (sl_cons se_str (sl_cons se_str sl_nil (fun _ => rfl)) (fun _ => rfl)) (fun _ => rfl))) sl_nil (fun _ => rfl)) (fun _ => rfl)) (fun _ => rfl) (fun _ => rfl)) (spar_l (spar_e se_str spar_nil (fun _ => rfl)) (fun _ => rfl)) (fun _ => rfl)) rfl (fun _ => rfl)) (sss_cons (ss_for (fun _ _ => rfl) (si_over (se_var (nm_by (by dsimp only [Sn.blk]; decide +kernel)))) (sg_name (nw_by (by dsimp only [Sn.blk]; decide +kernel))) (sss_cons (ss_if (st_val (se_call T.f__law_joins (by dsimp only [Sn.blk]; decide +kernel) (sl_cons (se_var (nm_by (by dsimp only [Sn.blk]; decide +kernel))) (sl_cons (se_var (nm_by (by dsimp only [Sn.blk]; decide +kernel))) sl_nil (fun _ => rfl)) (fun _ => rfl)) (fun _ => rfl) (fun _ => rfl)) (fun _ _ => rfl)) (sss_one (ss_set (nw_by (by dsimp only [Sn.blk]; decide +kernel)) (se_bin (op := .add) (se_var (nm_by (by dsimp only [Sn.blk]; decide +kernel))) (se_call T.f__law_pick (by dsimp only [Sn.blk]; decide +kernel) (sl_cons (se_var (nm_by (by dsimp only [Sn.blk]; decide +kernel))) (sl_cons (se_lst (sl_cons se_str (sl_cons se_str (sl_cons se_str sl_nil (fun _ => rfl)) (fun _ => rfl)) (fun _ => rfl))) sl_nil (fun _ => rfl)) (fun _ => rfl)) (fun _ => rfl) (fun _ => rfl))) (fun _ => rfl))) (sss_one (ss_set (nw_by (by dsimp only [Sn.blk]; decide +kernel)) (se_bin (op := .add) (se_var (nm_by (by dsimp only [Sn.blk]; decide +kernel))) (se_call T.f__law_pick (by dsimp only [Sn.blk]; decide +kernel) (sl_cons (se_var (nm_by (by dsimp only [Sn.blk]; decide +kernel))) (sl_cons (se_lst (sl_cons se_str (sl_cons se_str (sl_cons se_str (sl_cons se_str sl_nil (fun _ => rfl)) (fun _ => rfl)) (fun _ => rfl)) (fun _ => rfl))) sl_nil (fun _ => rfl)) (fun _ => rfl)) (fun _ => rfl) (fun _ => rfl))) (fun _ => rfl)))) (sss_cons (ss_app (nm_by (by dsimp only [Sn.blk]; decide +kernel)) (se_bi (b := .len) T.m_len rfl (by dsimp only [Sn.blk]; decide +kernel) (slo_cons (SE.so (se_var (nm_by (by dsimp only [Sn.blk]; decide +kernel)))) slo_nil (fun _ => rfl)) (fun _ => rfl) (fun _ => rfl)) (fun _ => rfl) (fun _ => rfl) rfl (fun _ => rfl) (fun _ => rfl) (fun _ => rfl)) (sss_one (ss_par2 (nw_by (by dsimp only [Sn.blk]; decide +kernel)) (nw_by (by dsimp only [Sn.blk]; decide +kernel)) (by decide) (by first | decide +kernel | (dsimp only [Sn.blk]; decide +kernel)) (by first | decide +kernel | (dsimp only [Sn.blk]; decide +kernel)) (spar_e (se_bin (op := .add) (se_var (nm_by (by dsimp only [Sn.blk]; decide +kernel))) (se_var (nm_by (by dsimp only [Sn.blk]; decide +kernel)))) (spar_e (se_var (nm_by (by dsimp only [Sn.blk]; decide +kernel))) spar_nil (fun _ => rfl)) (fun _ => rfl)) rfl (fun _ => rfl)))))) (sss_freeze (sss_one (ss_ret (se_tup (sl_cons (se_bin (op := .add) (se_var (nm_by (by dsimp only [Sn.blk]; decide +kernel))) (se_call T.f__law_pick (by dsimp only [Sn.blk]; decide +kernel) (sl_cons (se_var (nm_by (by dsimp only [Sn.blk]; decide +kernel))) (sl_cons (se_lst (sl_cons se_str (sl_cons se_str (sl_cons se_str sl_nil (fun _ => rfl)) (fun _ => rfl)) (fun _ => rfl))) sl_nil (fun _ => rfl)) (fun _ => rfl)) (fun _ => rfl) (fun _ => rfl))) (sl_cons (se_var (nm_by (by dsimp only [Sn.blk]; decide +kernel))) sl_nil (fun _ => rfl)) (fun _ => rfl))))))))
theorem k__law_token (T : Txt Γ) (k : Nat) : SSs ⟨Γ, P, n, k, false, N__law_token, defScope s__law_token, "_law_token.<locals>.", fun _ => true⟩ (defBody s__law_token) m__law_token := by
  exact (sss_cons (ss_set (nw_by (by dsimp only [Sn.blk]; decide +kernel)) (se_call T.f__law_take (by dsimp only [Sn.blk]; decide +kernel) (sl_cons (se_var (nm_by (by dsimp only [Sn.blk]; decide +kernel))) (sl_cons se_int sl_nil (fun _ => rfl)) (fun _ => rfl)) (fun _ => rfl) (fun _ => rfl)) (fun _ => rfl)) (sss_cons (ss_if (st_cmp (op := .eq) (SE.so (se_var (nm_by (by dsimp only [Sn.blk]; decide +kernel)))) (SE.so se_int) rfl) (sss_one (ss_ret (se_join (SE.so se_str) (SE.so (se_comp (own := [("k", 2)]) (si_range rfl (by dsimp only [Sn.blk]; decide +kernel) T.m_range (se_bin (op := .add) se_int (se_call T.f__law_take (by dsimp only [Sn.blk]; decide +kernel) (sl_cons (se_var (nm_by (by dsimp only [Sn.blk]; decide +kernel))) (sl_cons se_int sl_nil (fun _ => rfl)) (fun _ => rfl)) (fun _ => rfl) (fun _ => rfl))) (fun _ => rfl)) (by dsimp only [Sn.blk]; decide +kernel) (sg_name (nw_by (by dsimp only [Sn.blk]; decide +kernel))) sts_nil (se_call T.f__law_pick (by dsimp only [Sn.blk]; decide +kernel) (sl_cons (se_var (nm_by (by dsimp only [Sn.blk]; decide +kernel))) (sl_cons (se_bi (b := .list) T.m_list rfl (by dsimp only [Sn.blk]; decide +kernel) (slo_cons (SE.so se_str) slo_nil (fun _ => rfl)) (fun _ => rfl) (fun _ => rfl)) sl_nil (fun _ => rfl)) (fun _ => rfl)) (fun _ => rfl) (fun _ => rfl)) (by decide) (fun _ _ => rfl))) (fun _ => rfl) (fun _ => rfl) rfl))) sss_nil) (sss_cons (ss_if (st_cmp (op := .eq) (SE.so (se_var (nm_by (by dsimp only [Sn.blk]; decide +kernel)))) (SE.so se_int) rfl) (sss_one (ss_ret (se_call T.f__law_pick (by dsimp only [Sn.blk]; decide +kernel) (sl_cons (se_var (nm_by (by dsimp only [Sn.blk]; decide +kernel))) (sl_cons (se_lst (sl_cons se_str (sl_cons se_str (sl_cons (se_bi (b := .str) T.m_str rfl (by dsimp only [Sn.blk]; decide +kernel) (slo_cons (SE.so (se_bin (op := .add) se_int (se_call T.f__law_take (by dsimp only [Sn.blk]; decide +kernel) (sl_cons (se_var (nm_by (by dsimp only [Sn.blk]; decide +kernel))) (sl_cons se_int sl_nil (fun _ => rfl)) (fun _ => rfl)) (fun _ => rfl) (fun _ => rfl)))) slo_nil (fun _ => rfl)) (fun _ => rfl) (fun _ => rfl)) (sl_cons (se_bi (b := .str) T.m_str rfl (by dsimp only [Sn.blk]; decide +kernel) (slo_cons (SE.so (se_bin (op := .add) se_int (se_call T.f__law_take (by dsimp only [Sn.blk]; decide +kernel) (sl_cons (se_var (nm_by (by dsimp only [Sn.blk]; decide +kernel))) (sl_cons se_int sl_nil (fun _ => rfl)) (fun _ => rfl)) (fun _ => rfl) (fun _ => rfl)))) slo_nil (fun _ => rfl)) (fun _ => rfl) (fun _ => rfl)) sl_nil (fun _ => rfl)) (fun _ => rfl)) (fun _ => rfl)) (fun _ => rfl))) sl_nil (fun _ => rfl)) (fun _ => rfl)) (fun _ => rfl) (fun _ => rfl)))) sss_nil) (sss_one (ss_ret (se_call T.f__law_pick (by dsimp only [Sn.blk]; decide +kernel) (sl_cons (se_var (nm_by (by dsimp only [Sn.blk]; decide +kernel))) (sl_cons (se_bi (b := .list) T.m_list rfl (by dsimp only [Sn.blk]; decide +kernel) (slo_cons (SE.so se_str) slo_nil (fun _ => rfl)) (fun _ => rfl) (fun _ => rfl)) sl_nil (fun _ => rfl)) (fun _ => rfl)) (fun _ => rfl) (fun _ => rfl)))))))
theorem k__law_wrong_right (T : Txt Γ) (k : Nat) : SSs ⟨Γ, P, n, k, true, N__law_wrong_right, defScope s__law_wrong_right, "_law_wrong_right.<locals>.", fun _ => true⟩ (defBody s__law_wrong_right) m__law_wrong_right := by
  exact (sss_cons (ss_set (nw_by (by dsimp only [Sn.blk]; decide +kernel)) (se_call T.f__law_take (by dsimp only [Sn.blk]; decide +kernel) (sl_cons (se_var (nm_by (by dsimp only [Sn.blk]; decide +kernel))) (sl_cons (se_bin (op := .add) (se_bi (b := .len) T.m_len rfl (by dsimp only [Sn.blk]; decide +kernel) (slo_cons (SE.so (se_var (nm_by (by dsimp only [Sn.blk]; decide +kernel)))) slo_nil (fun _ => rfl)) (fun _ => rfl) (fun _ => rfl)) se_int) sl_nil (fun _ => rfl)) (fun _ => rfl)) (fun _ => rfl) (fun _ => rfl)) (fun _ => rfl)) (sss_cons (ss_unpack (sg_names (sgs_cons (nw_by (by dsimp only [Sn.blk]; decide +kernel)) (sgs_cons (nw_by (by dsimp only [Sn.blk]; decide +kernel)) sgs_nil (fun _ => rfl)) (fun _ => rfl)) (fun _ => rfl) (fun _ => rfl)) (se_call T.f__law_spread (by dsimp only [Sn.blk]; decide +kernel) (sl_cons (se_var (nm_by (by dsimp only [Sn.blk]; decide +kernel))) (sl_cons (se_slice (SE.so (se_var (nm_by (by dsimp only [Sn.blk]; decide +kernel)))) sp_none (sp_some (se_var (nm_by (by dsimp only [Sn.blk]; decide +kernel))))) sl_nil (fun _ => rfl)) (fun _ => rfl)) (fun _ => rfl) (fun _ => rfl)) (fun _ => rfl) (sw_of rfl) (fun _ => rfl)) (sss_cons (ss_set (nw_by (by dsimp only [Sn.blk]; decide +kernel)) (se_ix (SE.so (se_call T.f__law_spread (by dsimp only [Sn.blk]; decide +kernel) (sl_cons (se_var (nm_by (by dsimp only [Sn.blk]; decide +kernel))) (sl_cons (se_slice (SE.so (se_var (nm_by (by dsimp only [Sn.blk]; decide +kernel)))) (sp_some (se_var (nm_by (by dsimp only [Sn.blk]; decide +kernel)))) sp_none) sl_nil (fun _ => rfl)) (fun _ => rfl)) (fun _ => rfl) (fun _ => rfl))) se_int (fun _ _ => rfl)) (fun _ => rfl)) (sss_cons (ss_set (nw_by (by dsimp only [Sn.blk]; decide +kernel)) (se_call T.f__law_pick (by dsimp only [Sn.blk]; decide +kernel) (sl_cons (se_var (nm_by (by dsimp only [Sn.blk]; decide +kernel))) (sl_cons (se_lst (sl_cons se_str (sl_cons se_str (sl_cons se_str (sl_cons se_str (sl_cons se_str (sl_cons se_str (sl_cons se_str (sl_cons se_str (sl_cons se_str (sl_cons se_str (sl_cons se_str (sl_cons se_str (sl_cons se_str (sl_cons se_str sl_nil (fun _ => rfl)) (fun _ => rfl)) (fun _ => rfl)) (fun _ => rfl)) (fun _ => rfl)) (fun _ => rfl)) (fun _ => rfl)) (fun _ => rfl)) (fun _ => rfl)) (fun _ => rfl)) (fun _ => rfl)) (fun _ => rfl)) (fun _ => rfl)) (fun _ => rfl))) sl_nil (fun _ => rfl)) (fun _ => rfl)) (fun _ => rfl) (fun _ => rfl)) (fun _ => rfl)) (sss_cons (ss_if (st_not (st_val (se_call T.f__law_is_bad_text (by dsimp only [Sn.blk]; decide +kernel) (sl_cons (se_lam (l := L0) T.l_0 rfl rfl T.t__law_wrong_right_0 (by first | decide +kernel | (dsimp only [Sn.blk]; decide +kernel)) (fun _ => rfl)) (sl_cons (se_bi (b := .len) T.m_len rfl (by dsimp only [Sn.blk]; decide +kernel) (slo_cons (SE.so (se_var (nm_by (by dsimp only [Sn.blk]; decide +kernel)))) slo_nil (fun _ => rfl)) (fun _ => rfl) (fun _ => rfl)) sl_nil (fun _ => rfl)) (fun _ => rfl)) (fun _ => rfl) (fun _ => rfl)) (fun _ _ => rfl))) (sss_one (ss_ret se_bl)) sss_nil) (sss_cons (ss_set (nw_by (by dsimp only [Sn.blk]; decide +kernel)) (se_bin (op := .add) (se_var (nm_by (by dsimp only [Sn.blk]; decide +kernel))) (se_call T.f__law_pick (by dsimp only [Sn.blk]; decide +kernel) (sl_cons (se_var (nm_by (by dsimp only [Sn.blk]; decide +kernel))) (sl_cons (se_lst (sl_cons se_str (sl_cons se_str (sl_cons se_str (sl_cons se_str sl_nil (fun _ => rfl)) (fun _ => rfl)) (fun _ => rfl)) (fun _ => rfl))) sl_nil (fun _ => rfl)) (fun _ => rfl)) (fun _ => rfl) (fun _ => rfl))) (fun _ => rfl)) (sss_cons (ss_set (nw_by (by dsimp only [Sn.blk]; decide +kernel)) (se_call T.f__law_pick (by dsimp only [Sn.blk]; decide +kernel) (sl_cons (se_var (nm_by (by dsimp only [Sn.blk]; decide +kernel))) (sl_cons (se_lst (sl_cons se_str (sl_cons se_str (sl_cons (se_bin (op := .add) se_str (se_bi (b := .str) T.m_str rfl (by dsimp only [Sn.blk]; decide +kernel) (slo_cons (SE.so (se_call T.f__law_take (by dsimp only [Sn.blk]; decide +kernel) (sl_cons (se_var (nm_by (by dsimp only [Sn.blk]; decide +kernel))) (sl_cons (se_bin (op := .pow) se_int se_int) sl_nil (fun _ => rfl)) (fun _ => rfl)) (fun _ => rfl) (fun _ => rfl))) slo_nil (fun _ => rfl)) (fun _ => rfl) (fun _ => rfl))) (sl_cons (se_bi (b := .str) T.m_str rfl (by dsimp only [Sn.blk]; decide +kernel) (slo_cons (SE.so (se_bin (op := .add) (se_bin (op := .pow) se_int se_int) (se_call T.f__law_take (by dsimp only [Sn.blk]; decide +kernel) (sl_cons (se_var (nm_by (by dsimp only [Sn.blk]; decide +kernel))) (sl_cons (se_bin (op := .mul) se_int (se_bin (op := .pow) se_int se_int)) sl_nil (fun _ => rfl)) (fun _ => rfl)) (fun _ => rfl) (fun _ => rfl)))) slo_nil (fun _ => rfl)) (fun _ => rfl) (fun _ => rfl)) (sl_cons se_str sl_nil (fun _ => rfl)) (fun _ => rfl)) (fun _ => rfl)) (fun _ => rfl)) (fun _ => rfl))) sl_nil (fun _ => rfl)) (fun _ => rfl)) (fun _ => rfl) (fun _ => rfl)) (fun _ => rfl)) (sss_one (ss_ret (se_call T.f__law_is_bad_text (by dsimp only [Sn.blk]; decide +kernel) (sl_cons (se_lam (l := L1) T.l_1 rfl rfl T.t__law_wrong_right_1 (by first | decide +kernel | (dsimp only [Sn.blk]; decide +kernel)) (fun _ => rfl)) (sl_cons (se_bi (b := .len) T.m_len rfl (by dsimp only [Sn.blk]; decide +kernel) (slo_cons (SE.so (se_var (nm_by (by dsimp only [Sn.blk]; decide +kernel)))) slo_nil (fun _ => rfl)) (fun _ => rfl) (fun _ => rfl)) sl_nil (fun _ => rfl)) (fun _ => rfl)) (fun _ => rfl) (fun _ => rfl)))))))))))
theorem k_law (T : Txt Γ) (k : Nat) : SSs ⟨Γ, P, n, k, true, N_law, defScope s_law, "law.<locals>.", fun _ => true⟩ (defBody s_law) m_law := by
  exact (sss_cons (ss_set (nw_by (by dsimp only [Sn.blk]; decide +kernel)) (se_call T.f__law_begun (by dsimp only [Sn.blk]; decide +kernel) (sl_cons (se_var (nm_by (by dsimp only [Sn.blk]; decide +kernel))) sl_nil (fun _ => rfl)) (fun _ => rfl) (fun _ => rfl)) (fun _ => rfl)) (sss_cons (ss_for (fun _ _ => rfl) (si_range rfl (by dsimp only [Sn.blk]; decide +kernel) T.m_range (se_bin (op := .add) se_int (se_bi (b := .min2) T.m_min rfl (by dsimp only [Sn.blk]; decide +kernel) (slo_cons (SE.so (se_bi (b := .len) T.m_len rfl (by dsimp only [Sn.blk]; decide +kernel) (slo_cons (SE.so (se_var (nm_by (by dsimp only [Sn.blk]; decide +kernel)))) slo_nil (fun _ => rfl)) (fun _ => rfl) (fun _ => rfl))) (slo_cons (SE.so se_int) slo_nil (fun _ => rfl)) (fun _ => rfl)) (fun _ => rfl) (fun _ => rfl))) (fun _ => rfl)) (sg_name (nw_by (by dsimp only [Sn.blk]; decide +kernel))) (sss_cons (ss_setLc (own := [("k", 9)]) (nw_by (by dsimp only [Sn.blk]; decide +kernel)) rfl (by first | decide +kernel | (dsimp only [Sn.blk]; decide +kernel)) rfl (by first | decide +kernel | (dsimp only [Sn.blk]; decide +kernel)) (si_range rfl (by dsimp only [Sn.blk]; decide +kernel) T.m_range (se_call T.f__law_take (by dsimp only [Sn.blk]; decide +kernel) (sl_cons (se_var (nm_by (by dsimp only [Sn.blk]; decide +kernel))) (sl_cons se_int sl_nil (fun _ => rfl)) (fun _ => rfl)) (fun _ => rfl) (fun _ => rfl)) (fun _ => rfl)) (by first | decide +kernel | (dsimp only [Sn.blk]; decide +kernel)) (sg_name (nw_by (by dsimp only [Sn.blk]; decide +kernel))) sts_nil (se_call T.f__law_token (by dsimp only [Sn.blk]; decide +kernel) (sl_cons (se_var (nm_by (by dsimp only [Sn.blk]; decide +kernel))) sl_nil (fun _ => rfl)) (fun _ => rfl) (fun _ => rfl)) (by decide) (fun _ _ => rfl)) (sss_cons (ss_unpack (sg_names (sgs_cons (nw_by (by dsimp only [Sn.blk]; decide +kernel)) (sgs_cons (nw_by (by dsimp only [Sn.blk]; decide +kernel)) sgs_nil (fun _ => rfl)) (fun _ => rfl)) (fun _ => rfl) (fun _ => rfl)) (se_call T.f__law_spread (by dsimp only [Sn.blk]; decide +kernel) (sl_cons (se_var (nm_by (by dsimp only [Sn.blk]; decide +kernel))) (sl_cons (se_var (nm_by (by dsimp only [Sn.blk]; decide +kernel))) sl_nil (fun _ => rfl)) (fun _ => rfl)) (fun _ => rfl) (fun _ => rfl)) (fun _ => rfl) (sw_of rfl) (fun _ => rfl)) (sss_cons (ss_set (nw_by (by dsimp only [Sn.blk]; decide +kernel)) (se_bi (b := .tuple) T.m_tuple rfl (by dsimp only [Sn.blk]; decide +kernel) (slo_cons (SE.so (se_comp (own := [("token", 10), ("place", 11)]) (si_zip rfl (by dsimp only [Sn.blk]; decide +kernel) T.m_zip (se_var (nm_by (by dsimp only [Sn.blk]; decide +kernel))) (se_var (nm_by (by dsimp only [Sn.blk]; decide +kernel))) (fun _ => rfl) (fun _ => rfl) (fun _ => rfl)) (by dsimp only [Sn.blk]; decide +kernel) (sg_names (sgs_cons (nw_by (by dsimp only [Sn.blk]; decide +kernel)) (sgs_cons (nw_by (by dsimp only [Sn.blk]; decide +kernel)) sgs_nil (fun _ => rfl)) (fun _ => rfl)) (fun _ => rfl) (fun _ => rfl)) sts_nil (se_tup (sl_cons (se_var (nm_by (by dsimp only [Sn.blk]; decide +kernel))) (sl_cons (se_var (nm_by (by dsimp only [Sn.blk]; decide +kernel))) sl_nil (fun _ => rfl)) (fun _ => rfl))) (by decide) (fun _ _ => rfl))) slo_nil (fun _ => rfl)) (fun _ => rfl) (fun _ => rfl)) (fun _ => rfl)) (sss_cons (ss_if (SW.st (sw_or (st_not (st_val (se_call T.f__law_same (by dsimp only [Sn.blk]; decide +kernel) (sl_cons (se_call T.f_reader_tokens (by dsimp only [Sn.blk]; decide +kernel) (sl_cons (se_var (nm_by (by dsimp only [Sn.blk]; decide +kernel))) sl_nil (fun _ => rfl)) (fun _ => rfl) (fun _ => rfl)) (sl_cons (se_var (nm_by (by dsimp only [Sn.blk]; decide +kernel))) sl_nil (fun _ => rfl)) (fun _ => rfl)) (fun _ => rfl) (fun _ => rfl)) (fun _ _ => rfl))) (sw_one (st_not (st_val (se_call T.f__law_same (by dsimp only [Sn.blk]; decide +kernel) (sl_cons (se_callK0 T.h_reader_tokens_0 (by dsimp only [Sn.blk]; decide +kernel) (sk_cons (se_bin (op := .add) (se_var (nm_by (by dsimp only [Sn.blk]; decide +kernel))) se_str) sk_nil) (fun _ => rfl) (fun _ => rfl) (fun _ => rfl)) (sl_cons (se_var (nm_by (by dsimp only [Sn.blk]; decide +kernel))) sl_nil (fun _ => rfl)) (fun _ => rfl)) (fun _ => rfl) (fun _ => rfl)) (fun _ _ => rfl)))))) (sss_one (ss_ret se_bl)) sss_nil) (sss_cons (ss_if (st_not (st_val (se_call T.f__law_wrong_right (by dsimp only [Sn.blk]; decide +kernel) (sl_cons (se_var (nm_by (by dsimp only [Sn.blk]; decide +kernel))) (sl_cons (se_var (nm_by (by dsimp only [Sn.blk]; decide +kernel))) sl_nil (fun _ => rfl)) (fun _ => rfl)) (fun _ => rfl) (fun _ => rfl)) (fun _ _ => rfl))) (sss_one (ss_ret se_bl)) sss_nil) (sss_cons (ss_set (nw_by (by dsimp only [Sn.blk]; decide +kernel)) (se_call T.f__law_take (by dsimp only [Sn.blk]; decide +kernel) (sl_cons (se_var (nm_by (by dsimp only [Sn.blk]; decide +kernel))) (sl_cons se_int sl_nil (fun _ => rfl)) (fun _ => rfl)) (fun _ => rfl) (fun _ => rfl)) (fun _ => rfl)) (sss_cons (ss_set (nw_by (by dsimp only [Sn.blk]; decide +kernel)) (se_bin (op := .add) (se_var (nm_by (by dsimp only [Sn.blk]; decide +kernel))) (se_bin (op := .mul) se_str (se_bin (op := .sub) (se_bin (op := .add) se_int (se_var (nm_by (by dsimp only [Sn.blk]; decide +kernel)))) (se_bi (b := .len) T.m_len rfl (by dsimp only [Sn.blk]; decide +kernel) (slo_cons (SE.so (se_var (nm_by (by dsimp only [Sn.blk]; decide +kernel)))) slo_nil (fun _ => rfl)) (fun _ => rfl) (fun _ => rfl))))) (fun _ => rfl)) (sss_cons (ss_if (SW.st (sw_or (SW.st (sw_and (st_cmp (op := .eq) (SE.so (se_var (nm_by (by dsimp only [Sn.blk]; decide +kernel)))) (SE.so se_int) rfl) (sw_one (st_not (st_val (se_call T.f__law_is_bad_text (by dsimp only [Sn.blk]; decide +kernel) (sl_cons (se_lam (l := L2) T.l_2 rfl rfl T.t_law_2 (by first | decide +kernel | (dsimp only [Sn.blk]; decide +kernel)) (fun _ => rfl)) (sl_cons se_int sl_nil (fun _ => rfl)) (fun _ => rfl)) (fun _ => rfl) (fun _ => rfl)) (fun _ _ => rfl)))))) (sw_one (SW.st (sw_and (st_cmp (op := .lt) (SE.so (se_var (nm_by (by dsimp only [Sn.blk]; decide +kernel)))) (SE.so se_int) rfl) (sw_one (st_not (st_val (se_call T.f__law_same (by dsimp only [Sn.blk]; decide +kernel) (sl_cons (se_call T.f_reader_tokens (by dsimp only [Sn.blk]; decide +kernel) (sl_cons (se_var (nm_by (by dsimp only [Sn.blk]; decide +kernel))) sl_nil (fun _ => rfl)) (fun _ => rfl) (fun _ => rfl)) (sl_cons (se_var (nm_by (by dsimp only [Sn.blk]; decide +kernel))) sl_nil (fun _ => rfl)) (fun _ => rfl)) (fun _ => rfl) (fun _ => rfl)) (fun _ _ => rfl))))))))) (sss_one (ss_ret se_bl)) sss_nil) (sss_one (ss_if (st_not (st_val (se_call T.f__law_is_bad_text (by dsimp only [Sn.blk]; decide +kernel) (sl_cons (se_lam (l := L3) T.l_3 rfl rfl T.t_law_3 (by first | decide +kernel | (dsimp only [Sn.blk]; decide +kernel)) (fun _ => rfl)) (sl_cons se_int sl_nil (fun _ => rfl)) (fun _ => rfl)) (fun _ => rfl) (fun _ => rfl)) (fun _ _ => rfl))) (sss_one (ss_ret se_bl)) sss_nil))))))))))) (sss_one (ss_ret (se_call T.f__law_same (by dsimp only [Sn.blk]; decide +kernel) (sl_cons (se_call T.f_reader_tokens (by dsimp only [Sn.blk]; decide +kernel) (sl_cons se_str sl_nil (fun _ => rfl)) (fun _ => rfl) (fun _ => rfl)) (sl_cons (se_tup sl_nil) sl_nil (fun _ => rfl)) (fun _ => rfl)) (fun _ => rfl) (fun _ => rfl))))))
theorem fs_end_of_row : FnScope N_end_of_row ["text", "at", "signs"] (defScope s_end_of_row) := ⟨rfl, rfl, rfl, by decide +kernel, rfl, by decide +kernel, by decide +kernel⟩
theorem fs_token_end : FnScope N_token_end ["text", "at"] (defScope s_token_end) := ⟨rfl, rfl, rfl, by decide +kernel, rfl, by decide +kernel, by decide +kernel⟩
theorem fs_reader_tokens : FnScope N_reader_tokens ["text"] (defScope s_reader_tokens) := ⟨rfl, rfl, rfl, by decide +kernel, rfl, by decide +kernel, by decide +kernel⟩
theorem fs__law_begun : FnScope N__law_begun ["script"] (defScope s__law_begun) := ⟨rfl, rfl, rfl, by decide +kernel, rfl, by decide +kernel, by decide +kernel⟩
theorem fs__law_blend : FnScope N__law_blend ["draw"] (defScope s__law_blend) := ⟨rfl, rfl, rfl, by decide +kernel, rfl, by decide +kernel, by decide +kernel⟩
theorem fs__law_take : FnScope N__law_take ["draw", "size"] (defScope s__law_take) := ⟨rfl, rfl, rfl, by decide +kernel, rfl, by decide +kernel, by decide +kernel⟩
theorem fs__law_pick : FnScope N__law_pick ["draw", "some"] (defScope s__law_pick) := ⟨rfl, rfl, rfl, by decide +kernel, rfl, by decide +kernel, by decide +kernel⟩
theorem fs__law_caught : FnScope N__law_caught ["work"] (defScope s__law_caught) := ⟨rfl, rfl, rfl, by decide +kernel, rfl, by decide +kernel, by decide +kernel⟩
theorem fs__law_same : FnScope N__law_same ["one", "due"] (defScope s__law_same) := ⟨rfl, rfl, rfl, by decide +kernel, rfl, by decide +kernel, by decide +kernel⟩
theorem fs__law_is_bad_text : FnScope N__law_is_bad_text ["work", "at"] (defScope s__law_is_bad_text) := ⟨rfl, rfl, rfl, by decide +kernel, rfl, by decide +kernel, by decide +kernel⟩
theorem fs__law_joins : FnScope N__law_joins ["one", "other"] (defScope s__law_joins) := ⟨rfl, rfl, rfl, by decide +kernel, rfl, by decide +kernel, by decide +kernel⟩
theorem fs__law_spread : FnScope N__law_spread ["draw", "tokens"] (defScope s__law_spread) := ⟨rfl, rfl, rfl, by decide +kernel, rfl, by decide +kernel, by decide +kernel⟩
theorem fs__law_token : FnScope N__law_token ["draw"] (defScope s__law_token) := ⟨rfl, rfl, rfl, by decide +kernel, rfl, by decide +kernel, by decide +kernel⟩
theorem fs__law_wrong_right : FnScope N__law_wrong_right ["draw", "tokens"] (defScope s__law_wrong_right) := ⟨rfl, rfl, rfl, by decide +kernel, rfl, by decide +kernel, by decide +kernel⟩
theorem fs_law : FnScope N_law ["script"] (defScope s_law) := ⟨rfl, rfl, rfl, by decide +kernel, rfl, by decide +kernel, by decide +kernel⟩
end
end K11
end

section
set_option Elab.async false
set_option linter.all false
set_option maxRecDepth 100000
set_option maxHeartbeats 4000000
namespace K11
open PySem Pv
/-! texts as lists of signs -/
def S (l : List Nat) : Str := ⟨l.toArray⟩
theorem S_len (l : List Nat) : (S l).length = l.length := by simp [S, Str.length]
theorem S_list (l : List Nat) : (S l).cps.toList = l := by simp [S]
theorem S_app (a b : List Nat) : S a ++ S b = S (a ++ b) := by
  show Str.append _ _ = _
  simp [S, Str.append]
def SM : List Nat := [97, 98, 99, 100, 101, 102, 103, 104, 105, 106, 107, 108, 109, 110, 111, 112, 113, 114, 115, 116, 117, 118, 119, 120, 121, 122]
def DG : List Nat := [48, 49, 50, 51, 52, 53, 54, 55, 56, 57]
def SG : List Nat := [40, 41, 123, 125, 61, 44, 58, 59, 43, 45, 94, 47]
theorem eSM : ("abcdefghijklmnopqrstuvwxyz" : Str) = S SM := by decide +kernel
theorem eDG : ("0123456789" : Str) = S DG := by decide +kernel
theorem eSG : ("(){}=,:;+-^/" : Str) = S SG := by decide +kernel
theorem eWS : (" \n" : Str) = S [32, 10] := by decide +kernel
theorem e0 : ("0" : Str) = S [48] := by decide +kernel
/-- how long a token stands here -/
def tl : List Nat → Nat
  | [] => 0
  | c :: r => if c ∈ SM then ((c :: r).takeWhile (fun x => decide (x ∈ SM))).length
    else if c ∈ DG then (if ((c :: r).takeWhile (fun x => decide (x ∈ DG))).length ≤ 9 ∧ (c ≠ 48 ∨ ((c :: r).takeWhile (fun x => decide (x ∈ DG))).length = 1) then ((c :: r).takeWhile (fun x => decide (x ∈ DG))).length else 0)
    else if c ∈ SG then 1 else 0
theorem len_ok {l : List Nat} (h : l.length ≤ sizeLine) {f : Nat → Nat → Option Bool} : vbi f .len [.str (S l)] = some (.int l.length) := by
  show (if (S l).length ≤ sizeLine then some (D.int (S l).length) else none) = _
  rw [S_len, if_pos h]
theorem ix_ok {l : List Nat} (h : l.length ≤ sizeLine) {at_ c : Nat} (e : l[at_]? = some c) : vix (.str (S l)) (.int (at_ : Int)) = some (.str (S [c])) := by
  show (if (S l).length ≤ sizeLine then (L2.atI (S l).cps.toList (at_ : Int)).map fun c => D.str ⟨#[c]⟩ else none) = _
  rw [S_len, if_pos h, S_list, L2.atI_nat e]
  rfl
theorem in_ok {c : Nat} {z : List Nat} : vcmp .isin (.str (S [c])) (.str (S z)) = some (decide (c ∈ z)) := by
  show (oneSign (S [c])).map (fun c => decide (c ∈ (S z).cps.toList)) = _
  rw [S_list]
  rfl
theorem lt_ok {i j : Int} : vcmp .lt (.int i) (.int j) = some (decide (i < j)) := rfl
variable {n k : Nat} {fs : List Env1}
/-- end_of_row -/
theorem eor_loop {l z : List Nat} (hl : l.length ≤ sizeLine) (c : Pv.Ctx) : ∀ (fuel : Nat) (u : List Nat) (at_ : Nat), l.drop at_ = u → u.length < fuel → at_ ≤ l.length →
    wloop (fun ρ' => (eAnd (eCmp .lt (eVar 1) (eBi .len (lCons (eVar 0) lNil))) (eCmp .isin (eIx (eVar 0) (eVar 1)) (eVar 2))) c ρ' >>= vb) (fun ρ' => (sAug 1 .add (eK (.int 1))) c ρ') fuel [.pl (.str (S l)), .pl (.int at_), .pl (.str (S z))] =
      pure (.nx [.pl (.str (S l)), .pl (.int ((at_ + (u.takeWhile fun x => decide (x ∈ z)).length : Nat))), .pl (.str (S z))])
  | 0, u, at_, _, h, _ => by omega
  | fuel + 1, [], at_, hu, h, ha => by
    have hat : l.length ≤ at_ := List.drop_eq_nil_iff.mp hu
    have e1 : ¬ at_ < l.length := by omega
    simp [wloop, eAnd, eCmp, eVar, eBi, lCons, lNil, M.assoc, M.pure_bind, len_ok hl, M.opt_some, lt_ok, e1, vb, vbool]
  | fuel + 1, x :: r, at_, hu, h, ha => by
    have hat : at_ < l.length := by
      have q := congrArg List.length hu
      simp at q
      omega
    have ex : l[at_]? = some x := by
      have q := List.drop_eq_getElem_cons hat
      rw [hu] at q
      injection q with q1 q2
      rw [List.getElem?_eq_getElem hat, q1]
    have hr : l.drop (at_ + 1) = r := by
      have q := List.drop_eq_getElem_cons hat
      rw [hu] at q
      injection q with q1 q2
      exact q2.symm
    have e1 : at_ < l.length := hat
    by_cases hx : x ∈ z
    · have ih := eor_loop (z := z) hl c fuel r (at_ + 1) hr (by simp at h; omega) hat
      have ea : vaug .add (.int (at_ : Int)) (.int 1) = some (.int ((at_ + 1 : Nat) : Int)) := rfl
      rw [List.takeWhile_cons_of_pos (by simpa using hx)]
      simp only [List.length_cons]
      rw [show at_ + ((r.takeWhile fun x => decide (x ∈ z)).length + 1) = at_ + 1 + (r.takeWhile fun x => decide (x ∈ z)).length by omega, ← ih]
      simp [wloop, eAnd, eCmp, eVar, eBi, eIx, lCons, lNil, M.assoc, M.pure_bind, len_ok hl, M.opt_some, lt_ok, e1, vb, vbool, ix_ok hl ex, in_ok, hx, sAug, eK, ea]
    · rw [List.takeWhile_cons_of_neg (by simpa using hx)]
      simp [wloop, eAnd, eCmp, eVar, eBi, eIx, lCons, lNil, M.assoc, M.pure_bind, len_ok hl, M.opt_some, lt_ok, e1, vb, vbool, ix_ok hl ex, in_ok, hx]
theorem eor_run {l z : List Nat} {at_ : Nat} (hl : l.length ≤ sizeLine) (ha : at_ ≤ l.length) (hn : l.length < n) : (run P n (k + 1)).1 0 fs [.str (S l), .int at_, .str (S z)] = pure (.int ((at_ + ((l.drop at_).takeWhile fun x => decide (x ∈ z)).length : Nat))) := by
  rw [run_code (b := m_end_of_row) rfl rfl, outD_false]
  have e := eor_loop (z := z) hl (ctxOf P n (run P n k) false fs) n (l.drop at_) at_ rfl (by simp; omega) ha
  have e2 : startE 3 [.str (S l), .int at_, .str (S z)] = [.pl (.str (S l)), .pl (.int at_), .pl (.str (S z))] := rfl
  show (m_end_of_row (ctxOf P n (run P n k) false fs) (startE 3 [.str (S l), .int at_, .str (S z)]) >>= rtD) = _
  rw [e2]
  unfold m_end_of_row sSeq sWhile
  have e3 : (ctxOf P n (run P n k) false fs).n = n := rfl
  rw [e3, e]
  simp [M.pure_bind, sRet, eVar, rtD]
theorem vb_bl2 (b : Bool) : vb (.bl b) = pure b := rfl
theorem opt_pure {α : Type} (a : α) : M.opt (some a) = pure a := rfl
theorem isin_ix {c : Pv.Ctx} {l z : List Nat} {at_ x : Nat} {ρ : Env1} (hl : l.length ≤ sizeLine) (ex : l[at_]? = some x) (h0 : ρ[0]? = some (.pl (.str (S l)))) {j : Nat} (h1 : ρ[j]? = some (.pl (.int (at_ : Int)))) {s : Str} (hz : s = S z) :
    (eCmp .isin (eIx (eVar 0) (eVar j)) (eK (.str s))) c ρ = pure (.bl (decide (x ∈ z))) := by
  subst hz
  simp only [eCmp, eIx, eVar, eK, h0, h1, M.pure_bind, M.assoc, ix_ok hl ex, opt_pure, in_ok]
theorem ne0_ix {c : Pv.Ctx} {l : List Nat} {at_ x : Nat} {ρ : Env1} (hl : l.length ≤ sizeLine) (ex : l[at_]? = some x) (hx : x < 1114112) (h0 : ρ[0]? = some (.pl (.str (S l)))) {j : Nat} (h1 : ρ[j]? = some (.pl (.int (at_ : Int)))) :
    (eCmp .ne (eIx (eVar 0) (eVar j)) (eK (.str "0"))) c ρ = pure (.bl (decide (x ≠ 48))) := by
  rw [e0]
  have sh : ∀ y : Nat, y < 1114112 → shapedD (.str (S [y])) = some (.str (S [y])) := fun y hy => by
    show (some (PyData.str (S [y]))).bind (fun p => if SeqAt.shaped p then some p else none) = _
    rw [Option.bind_some, if_pos]
    show (PyData.strOk (S [y]) && decide (0 ≤ 64)) = true
    simp [PyData.strOk, S, hy]
  have e : vcmp .ne (.str (S [x])) (.str (S [48])) = some (decide (x ≠ 48)) := by
    show ((shapedD (.str (S [x]))).bind fun p => (shapedD (.str (S [48]))).map fun q => !PyData.eqv p q) = _
    rw [sh x hx, sh 48 (by omega)]
    show some (!(S [x] == S [48])) = _
    by_cases h : x = 48
    · subst h
      simp
    · have : S [x] ≠ S [48] := fun z => h (by
        have := congrArg (fun s => s.cps.toList) z
        simpa [S] using this)
      simp [this, h]
  simp only [eCmp, eIx, eVar, eK, h0, h1, M.pure_bind, M.assoc, ix_ok hl ex, opt_pure, e]
theorem le_ok {i j : Int} : vcmp .le (.int i) (.int j) = some (decide (i ≤ j)) := rfl
theorem gt_ok {i j : Int} : vcmp .gt (.int i) (.int j) = some (decide (j < i)) := rfl
theorem eq_ok {i j : Int} : vcmp .eq (.int i) (.int j) = some (i == j) := rfl
theorem sub_ok {i j : Int} : vbin .sub (.int i) (.int j) = some (.int (i - j)) := rfl
theorem add_ok {i j : Int} : vbin .add (.int i) (.int j) = some (.int (i + j)) := rfl
/-- token_end -/
theorem te_run {l : List Nat} {at_ x : Nat} {r : List Nat} (hl : l.length ≤ sizeLine) (hu : l.drop at_ = x :: r) (hx : x < 1114112) (hn : l.length < n) : (run P n (k + 2)).1 1 fs [.str (S l), .int at_] = pure (.int ((at_ + tl (x :: r) : Nat))) := by
  have hat : at_ < l.length := by
    have q := congrArg List.length hu
    simp at q
    omega
  have ex : l[at_]? = some x := by
    have q := List.drop_eq_getElem_cons hat
    rw [hu] at q
    injection q with q1 q2
    rw [List.getElem?_eq_getElem hat, q1]
  rw [run_code (b := m_token_end) rfl rfl, outD_false]
  have e2 : startE 3 [.str (S l), .int at_] = [.pl (.str (S l)), .pl (.int at_), .un] := rfl
  show (m_token_end (ctxOf P n (run P n (k + 1)) false fs) (startE 3 [.str (S l), .int at_]) >>= rtD) = _
  rw [e2]
  generalize hc : ctxOf P n (run P n (k + 1)) false fs = c
  have hcall : ∀ ρ, c.call 0 (c.now ρ) = (run P n (k + 1)).1 0 fs := fun ρ => by rw [← hc]; rfl
  have i1 : (eCmp .isin (eIx (eVar 0) (eVar 1)) (eK (.str "abcdefghijklmnopqrstuvwxyz"))) c [.pl (.str (S l)), .pl (.int at_), .un] = pure (.bl (decide (x ∈ SM))) := isin_ix hl ex rfl rfl eSM
  have i2 : (eCmp .isin (eIx (eVar 0) (eVar 1)) (eK (.str "0123456789"))) c [.pl (.str (S l)), .pl (.int at_), .un] = pure (.bl (decide (x ∈ DG))) := isin_ix hl ex rfl rfl eDG
  have i3 : (eCmp .isin (eIx (eVar 0) (eVar 1)) (eK (.str "(){}=,:;+-^/"))) c [.pl (.str (S l)), .pl (.int at_), .un] = pure (.bl (decide (x ∈ SG))) := isin_ix hl ex rfl rfl eSG
  unfold m_token_end sSeq sIf
  simp only [i1, M.pure_bind, vb_bl2]
  by_cases h1 : x ∈ SM
  · have hE : (run P n (k + 1)).1 0 fs [.str (S l), .int at_, .str (S SM)] = _ := eor_run (n := n) (k := k) (fs := fs) (z := SM) hl (Nat.le_of_lt hat) hn
    simp only [h1, decide_true, if_true, sRet, eCall, lCons, lNil, eVar, eK, M.pure_bind, M.assoc, List.getElem?_cons_zero, List.getElem?_cons_succ, hcall, eSM, hE, rtD, tl, hu]
  · simp only [h1, decide_false, Bool.false_eq_true, if_false, sPass, M.pure_bind, i2, vb_bl2]
    by_cases h2 : x ∈ DG
    · have hE : (run P n (k + 1)).1 0 fs [.str (S l), .int at_, .str (S DG)] = _ := eor_run (n := n) (k := k) (fs := fs) (z := DG) hl (Nat.le_of_lt hat) hn
      rw [hu] at hE
      generalize hm : ((x :: r).takeWhile fun y => decide (y ∈ DG)).length = m at hE
      have i4 : (eCmp .ne (eIx (eVar 0) (eVar 1)) (eK (.str "0"))) c [.pl (.str (S l)), .pl (.int at_), .pl (.int ((at_ + m : Nat)))] = pure (.bl (decide (x ≠ 48))) := ne0_ix hl ex hx rfl rfl
      have st : (sAsg 2 (eCall 0 (lCons (eVar 0) (lCons (eVar 1) (lCons (eK (.str "0123456789")) lNil))))) c [.pl (.str (S l)), .pl (.int at_), .un] = pure (.nx [.pl (.str (S l)), .pl (.int at_), .pl (.int ((at_ + m : Nat)))]) := by
        simp only [sAsg, eCall, lCons, lNil, eVar, eK, M.pure_bind, M.assoc, List.getElem?_cons_zero, List.getElem?_cons_succ, hcall, eDG, hE, List.set_cons_succ, List.set_cons_zero]
      have a1 : (eCmp .le (eBin .sub (eVar 2) (eVar 1)) (eK (.int 9))) c [.pl (.str (S l)), .pl (.int at_), .pl (.int ((at_ + m : Nat)))] = pure (.bl (decide (m ≤ 9))) := by
        simp only [eCmp, eBin, eVar, eK, M.pure_bind, M.assoc, List.getElem?_cons_zero, List.getElem?_cons_succ, sub_ok, opt_pure, le_ok]
        congr 2
        exact decide_eq_decide.mpr (by omega)
      have a2 : (eCmp .eq (eVar 2) (eBin .add (eVar 1) (eK (.int 1)))) c [.pl (.str (S l)), .pl (.int at_), .pl (.int ((at_ + m : Nat)))] = pure (.bl (decide (m = 1))) := by
        simp only [eCmp, eBin, eVar, eK, M.pure_bind, M.assoc, List.getElem?_cons_zero, List.getElem?_cons_succ, add_ok, opt_pure, eq_ok]
        congr 2
        by_cases hm1 : m = 1
        · subst hm1
          simp
        · simp [hm1]
          omega
      have i5 : (eIf (eAnd (eCmp .le (eBin .sub (eVar 2) (eVar 1)) (eK (.int 9))) (eOr (eCmp .ne (eIx (eVar 0) (eVar 1)) (eK (.str "0"))) (eCmp .eq (eVar 2) (eBin .add (eVar 1) (eK (.int 1)))))) (eVar 2) (eVar 1)) c [.pl (.str (S l)), .pl (.int at_), .pl (.int ((at_ + m : Nat)))] = pure (.int ((at_ + (if m ≤ 9 ∧ (x ≠ 48 ∨ m = 1) then m else 0) : Nat))) := by
        unfold eIf eAnd eOr
        simp only [a1, a2, i4, M.pure_bind, vb_bl2]
        by_cases q1 : m ≤ 9 <;> by_cases q2 : x = 48 <;> by_cases q3 : m = 1 <;> simp [q1, q2, q3, M.pure_bind, vb_bl2, eVar]
      simp only [h2, decide_true, if_true, st, M.pure_bind, sRet, i5, rtD, tl, h1, if_false, hm]
    · simp only [h2, decide_false, Bool.false_eq_true, if_false, M.pure_bind, sRet, eIf, i3, vb_bl2]
      by_cases h3 : x ∈ SG
      · simp [h3, eBin, eVar, eK, M.pure_bind, M.assoc, add_ok, opt_pure, rtD, tl, h1, h2]
      · simp [h3, eBin, eVar, eK, M.pure_bind, M.assoc, add_ok, opt_pure, rtD, tl, h1, h2]
theorem tl_le : ∀ u : List Nat, tl u ≤ u.length
  | [] => Nat.le_refl _
  | c :: r => by
    have h1 : ((c :: r).takeWhile fun x => decide (x ∈ SM)).length ≤ (c :: r).length := (List.takeWhile_sublist _).length_le
    have h2 : ((c :: r).takeWhile fun x => decide (x ∈ DG)).length ≤ (c :: r).length := (List.takeWhile_sublist _).length_le
    have h3 : 1 ≤ (c :: r).length := by simp
    simp only [tl]
    split
    · exact h1
    · split
      · split
        · exact h2
        · omega
      · split <;> omega
def enc (p : List Nat × Nat) : D := .tup [.str (S p.1), .int (p.2 : Int)]
/-- the reader's loop, its body -/
def bodyC : CS := (sSeq (sIf (eCmp .isin (eIx (eVar 0) (eVar 2)) (eK (.str " \n"))) (sSeq (sAug 2 .add (eK (.int 1))) sCont) sPass) (sSeq (sAsg 3 (eCall 1 (lCons (eVar 0) (lCons (eVar 2) lNil)))) (sSeq (sIf (eCmp .eq (eVar 3) (eVar 2)) (sRaise 1 (eVar 2)) sPass) (sSeq (sApp 1 (eTup (lCons (eSlice (eVar 0) (oSome (eVar 2)) (oSome (eVar 3))) (lCons (eVar 2) lNil)))) (sAsg 2 (eVar 3))))))
theorem slice_ok {l : List Nat} {at_ m : Nat} (hl : l.length ≤ sizeLine) (h : at_ + m ≤ l.length) : vslice (.str (S l)) (some (at_ : Int)) (some ((at_ + m : Nat) : Int)) = some (.str (S ((l.drop at_).take m))) := by
  show (if (S l).length ≤ sizeLine then some (D.str (L2.cutS (S l) (some (at_ : Int)) (some ((at_ + m : Nat) : Int)))) else none) = _
  rw [S_len, if_pos hl]
  unfold L2.cutS
  rw [S_list, S_len, HT.sIx_nat, HT.sIx_nat, Nat.min_eq_left (show at_ ≤ l.length by omega), Nat.min_eq_left h, show at_ + m - at_ = m by omega]
  rfl
section
variable {l : List Nat} {at_ x : Nat} {r : List Nat} {found : List D} {e3 : Slot}
theorem body_ws (hl : l.length ≤ sizeLine) (ex : l[at_]? = some x) (hw : x ∈ [32, 10]) (c : Pv.Ctx) : bodyC c [.pl (.str (S l)), .own found, .pl (.int at_), e3] = pure (.ct [.pl (.str (S l)), .own found, .pl (.int ((at_ + 1 : Nat) : Int)), e3]) := by
  have i1 : (eCmp .isin (eIx (eVar 0) (eVar 2)) (eK (.str " \n"))) c [.pl (.str (S l)), .own found, .pl (.int at_), e3] = pure (.bl (decide (x ∈ [32, 10]))) := isin_ix hl ex rfl rfl eWS
  have ea : vaug .add (.int (at_ : Int)) (.int 1) = some (.int ((at_ + 1 : Nat) : Int)) := rfl
  unfold bodyC sSeq sIf
  simp only [i1, M.pure_bind, vb_bl2, hw, decide_true, if_true, sAug, eK, List.getElem?_cons_succ, List.getElem?_cons_zero, ea, opt_pure, sCont, List.set_cons_succ, List.set_cons_zero]
theorem body_pre (hl : l.length ≤ sizeLine) (hu : l.drop at_ = x :: r) (hx : x < 1114112) (hn : l.length < n) (hw : x ∉ [32, 10]) :
    bodyC (ctxOf P n (run P n (k + 2)) false fs) [.pl (.str (S l)), .own found, .pl (.int at_), e3] = (sSeq (sIf (eCmp .eq (eVar 3) (eVar 2)) (sRaise 1 (eVar 2)) sPass) (sSeq (sApp 1 (eTup (lCons (eSlice (eVar 0) (oSome (eVar 2)) (oSome (eVar 3))) (lCons (eVar 2) lNil)))) (sAsg 2 (eVar 3)))) (ctxOf P n (run P n (k + 2)) false fs) [.pl (.str (S l)), .own found, .pl (.int at_), .pl (.int ((at_ + tl (x :: r) : Nat) : Int))] := by
  have hat : at_ < l.length := by
    have q := congrArg List.length hu
    simp at q
    omega
  have ex : l[at_]? = some x := by
    have q := List.drop_eq_getElem_cons hat
    rw [hu] at q
    injection q with q1 q2
    rw [List.getElem?_eq_getElem hat, q1]
  have i1 : ∀ c, (eCmp .isin (eIx (eVar 0) (eVar 2)) (eK (.str " \n"))) c [.pl (.str (S l)), .own found, .pl (.int at_), e3] = pure (.bl (decide (x ∈ [32, 10]))) := fun c => isin_ix hl ex rfl rfl eWS
  have st : (sAsg 3 (eCall 1 (lCons (eVar 0) (lCons (eVar 2) lNil)))) (ctxOf P n (run P n (k + 2)) false fs) [.pl (.str (S l)), .own found, .pl (.int at_), e3] = pure (.nx [.pl (.str (S l)), .own found, .pl (.int at_), .pl (.int ((at_ + tl (x :: r) : Nat) : Int))]) := by
    have hE := te_run (n := n) (k := k) (fs := fs) hl hu hx hn
    have hcall : ∀ ρ, (ctxOf P n (run P n (k + 2)) false fs).call 1 ((ctxOf P n (run P n (k + 2)) false fs).now ρ) = (run P n (k + 2)).1 1 fs := fun ρ => rfl
    simp only [sAsg, eCall, lCons, lNil, eVar, M.pure_bind, M.assoc, List.getElem?_cons_succ, List.getElem?_cons_zero, hcall, hE, List.set_cons_succ, List.set_cons_zero]
  conv => lhs; unfold bodyC sSeq sIf
  simp only [i1, M.pure_bind, vb_bl2, hw, decide_false, Bool.false_eq_true, if_false, sPass]
  show ((sAsg 3 (eCall 1 (lCons (eVar 0) (lCons (eVar 2) lNil)))) (ctxOf P n (run P n (k + 2)) false fs) [.pl (.str (S l)), .own found, .pl (.int at_), e3] >>= _) = _
  rw [st, M.pure_bind]
  rfl
theorem body_bad (hl : l.length ≤ sizeLine) (hu : l.drop at_ = x :: r) (hx : x < 1114112) (hn : l.length < n) (hw : x ∉ [32, 10]) (ht : tl (x :: r) = 0) :
    bodyC (ctxOf P n (run P n (k + 2)) false fs) [.pl (.str (S l)), .own found, .pl (.int at_), e3] = M.raise 1 (some (.int (at_ : Int))) := by
  rw [body_pre hl hu hx hn hw, ht]
  simp only [sSeq, sIf, eCmp, eVar, List.getElem?_cons_succ, List.getElem?_cons_zero, M.pure_bind, eq_ok, opt_pure, Nat.add_zero, beq_self_eq_true, vb_bl2, if_true, sRaise, M.raise_bind, M.assoc]
theorem body_tok (hl : l.length ≤ sizeLine) (hu : l.drop at_ = x :: r) (hx : x < 1114112) (hn : l.length < n) (hw : x ∉ [32, 10]) (ht : tl (x :: r) ≠ 0) (hf : found.length < sizeLine) :
    bodyC (ctxOf P n (run P n (k + 2)) false fs) [.pl (.str (S l)), .own found, .pl (.int at_), e3] = pure (.nx [.pl (.str (S l)), .own (found ++ [enc ((x :: r).take (tl (x :: r)), at_)]), .pl (.int ((at_ + tl (x :: r) : Nat) : Int)), .pl (.int ((at_ + tl (x :: r) : Nat) : Int))]) := by
  rw [body_pre hl hu hx hn hw]
  have hle : at_ + tl (x :: r) ≤ l.length := by
    have q := congrArg List.length hu
    simp at q
    have := tl_le (x :: r)
    simp at this
    omega
  have sl := slice_ok (at_ := at_) (m := tl (x :: r)) hl hle
  rw [hu] at sl
  have ne : ((at_ + tl (x :: r) : Nat) : Int) ≠ (at_ : Int) := by omega
  simp only [sSeq, sIf, eCmp, eVar, List.getElem?_cons_succ, List.getElem?_cons_zero, M.pure_bind, eq_ok, opt_pure, beq_eq_false_iff_ne.mpr ne, vb_bl2, Bool.false_eq_true, if_false, sPass, M.assoc, sApp, eTup, lCons, lNil, eSlice, oSome, sl, List.length_cons, List.length_nil, hf, if_true, List.set_cons_succ, List.set_cons_zero, sAsg, enc]
  rfl
end
/-- the reader, standing before u at place i, ends with the tokens out -/
inductive Rd : Nat → List Nat → List (List Nat × Nat) → Prop
  | nil (i : Nat) : Rd i [] []
  | ws {i x : Nat} {r : List Nat} {out : List (List Nat × Nat)} : x ∈ [32, 10] → Rd (i + 1) r out → Rd i (x :: r) out
  | tok {i x : Nat} {w r : List Nat} {out : List (List Nat × Nat)} : x ∉ [32, 10] → tl ((x :: w) ++ r) = (x :: w).length → Rd (i + (x :: w).length) r out → Rd i ((x :: w) ++ r) ((x :: w, i) :: out)
/-- it raises at the place e -/
inductive RdE : Nat → List Nat → Nat → Prop
  | bad {i x : Nat} {r : List Nat} : x ∉ [32, 10] → tl (x :: r) = 0 → RdE i (x :: r) i
  | ws {i x e : Nat} {r : List Nat} : x ∈ [32, 10] → RdE (i + 1) r e → RdE i (x :: r) e
  | tok {i x e : Nat} {w r : List Nat} : x ∉ [32, 10] → tl ((x :: w) ++ r) = (x :: w).length → RdE (i + (x :: w).length) r e → RdE i ((x :: w) ++ r) e
def condC : CE := (eCmp .lt (eVar 2) (eBi .len (lCons (eVar 0) lNil)))
section
variable {l : List Nat}
theorem cond_run (hl : l.length ≤ sizeLine) (c : Pv.Ctx) {i : Nat} {f e3 : Slot} : (condC c [.pl (.str (S l)), f, .pl (.int (i : Int)), e3] >>= vb) = pure (decide (i < l.length)) := by
  simp only [condC, eCmp, eVar, eBi, lCons, lNil, List.getElem?_cons_succ, List.getElem?_cons_zero, M.pure_bind, M.assoc, len_ok hl, opt_pure, lt_ok, vb_bl2]
  congr 1
  exact decide_eq_decide.mpr (by omega)
theorem drop_app {i : Nat} {a b : List Nat} (h : l.drop i = a ++ b) : l.drop (i + a.length) = b := by
  rw [← List.drop_drop, h]
  simp
theorem loop_ok (hl : l.length ≤ sizeLine) (hs : ∀ x ∈ l, x < 1114112) (hn : l.length < n) {i : Nat} {u : List Nat} {out : List (List Nat × Nat)} (h : Rd i u out) : ∀ (fuel : Nat) (found : List D) (e3 : Slot), l.drop i = u → u.length < fuel → found.length ≤ i → i ≤ l.length → ∃ e,
    wloop (fun ρ' => condC (ctxOf P n (run P n (k + 2)) false fs) ρ' >>= vb) (fun ρ' => bodyC (ctxOf P n (run P n (k + 2)) false fs) ρ') fuel [.pl (.str (S l)), .own found, .pl (.int (i : Int)), e3] = pure (.nx [.pl (.str (S l)), .own (found ++ out.map enc), .pl (.int (l.length : Int)), e]) := by
  induction h with
  | nil i =>
    intro fuel found e3 hu hf hfi hil
    have hi : l.length ≤ i := List.drop_eq_nil_iff.mp hu
    have e : i = l.length := by omega
    subst e
    cases fuel with
    | zero => simp at hf
    | succ fuel => exact ⟨e3, by rw [wloop, cond_run hl, M.pure_bind, decide_eq_false (by omega), if_neg (by simp)]; simp⟩
  | @ws i x r out hx _ ih =>
    intro fuel found e3 hu hf hfi hil
    have hat : i < l.length := by
      have q := congrArg List.length hu
      simp at q
      omega
    have ex : l[i]? = some x := by
      have q := List.drop_eq_getElem_cons hat
      rw [hu] at q
      injection q with q1 q2
      rw [List.getElem?_eq_getElem hat, q1]
    cases fuel with
    | zero => omega
    | succ fuel =>
      obtain ⟨e, he⟩ := ih fuel found e3 (drop_app (a := [x]) hu) (by simp at hf; omega) (by omega) hat
      refine ⟨e, ?_⟩
      rw [← he, wloop, cond_run hl, M.pure_bind, decide_eq_true hat, if_pos rfl, body_ws hl ex hx, M.pure_bind]
  | @tok i x w r out hx ht _ ih =>
    intro fuel found e3 hu hf hfi hil
    have hat : i < l.length := by
      have q := congrArg List.length hu
      simp at q
      omega
    have hu' : l.drop i = x :: (w ++ r) := hu
    have hlen : i + (x :: w).length ≤ l.length := by
      have q := congrArg List.length hu
      simp at q
      simp
      omega
    have hxl : x < 1114112 := hs x (by
      have : x ∈ l.drop i := by rw [hu']; exact List.mem_cons_self
      exact List.mem_of_mem_drop this)
    cases fuel with
    | zero => omega
    | succ fuel =>
      have ht' : tl (x :: (w ++ r)) = (x :: w).length := ht
      obtain ⟨e, he⟩ := ih fuel (found ++ [enc (x :: w, i)]) (.pl (.int ((i + (x :: w).length : Nat) : Int))) (drop_app hu) (by simp at hf; omega) (by simp; omega) hlen
      refine ⟨e, ?_⟩
      rw [wloop, cond_run hl, M.pure_bind, decide_eq_true hat, if_pos rfl, body_tok (k := k) hl hu' hxl hn hx (by rw [ht']; simp) (by omega), M.pure_bind, ht']
      have etk : (x :: (w ++ r)).take (x :: w).length = x :: w := by
        show ((x :: w) ++ r).take _ = _
        simp
      rw [etk]
      show wloop _ _ fuel _ = _
      rw [he]
      simp
theorem loop_bad (hl : l.length ≤ sizeLine) (hs : ∀ x ∈ l, x < 1114112) (hn : l.length < n) {i e : Nat} {u : List Nat} (h : RdE i u e) : ∀ (fuel : Nat) (found : List D) (e3 : Slot), l.drop i = u → u.length < fuel → found.length ≤ i →
    wloop (fun ρ' => condC (ctxOf P n (run P n (k + 2)) false fs) ρ' >>= vb) (fun ρ' => bodyC (ctxOf P n (run P n (k + 2)) false fs) ρ') fuel [.pl (.str (S l)), .own found, .pl (.int (i : Int)), e3] = M.raise 1 (some (.int (e : Int))) := by
  induction h with
  | @bad i x r hx ht =>
    intro fuel found e3 hu hf hfi
    have hat : i < l.length := by
      have q := congrArg List.length hu
      simp at q
      omega
    have hxl : x < 1114112 := hs x (by
      have : x ∈ l.drop i := by rw [hu]; exact List.mem_cons_self
      exact List.mem_of_mem_drop this)
    cases fuel with
    | zero => omega
    | succ fuel => rw [wloop, cond_run hl, M.pure_bind, decide_eq_true hat, if_pos rfl, body_bad (k := k) hl hu hxl hn hx ht, M.raise_bind]
  | @ws i x e r hx _ ih =>
    intro fuel found e3 hu hf hfi
    have hat : i < l.length := by
      have q := congrArg List.length hu
      simp at q
      omega
    have ex : l[i]? = some x := by
      have q := List.drop_eq_getElem_cons hat
      rw [hu] at q
      injection q with q1 q2
      rw [List.getElem?_eq_getElem hat, q1]
    cases fuel with
    | zero => omega
    | succ fuel =>
      rw [← ih fuel found e3 (drop_app (a := [x]) hu) (by simp at hf; omega) (by omega), wloop, cond_run hl, M.pure_bind, decide_eq_true hat, if_pos rfl, body_ws hl ex hx, M.pure_bind]
  | @tok i x e w r hx ht _ ih =>
    intro fuel found e3 hu hf hfi
    have hat : i < l.length := by
      have q := congrArg List.length hu
      simp at q
      omega
    have hu' : l.drop i = x :: (w ++ r) := hu
    have hlen : i + (x :: w).length ≤ l.length := by
      have q := congrArg List.length hu
      simp at q
      simp
      omega
    have hxl : x < 1114112 := hs x (by
      have : x ∈ l.drop i := by rw [hu']; exact List.mem_cons_self
      exact List.mem_of_mem_drop this)
    cases fuel with
    | zero => omega
    | succ fuel =>
      have ht' : tl (x :: (w ++ r)) = (x :: w).length := ht
      rw [← ih fuel (found ++ [enc (x :: w, i)]) (.pl (.int ((i + (x :: w).length : Nat) : Int))) (drop_app hu) (by simp at hf; omega) (by simp; omega)]
      rw [wloop, cond_run hl, M.pure_bind, decide_eq_true hat, if_pos rfl, body_tok (k := k) hl hu' hxl hn hx (by rw [ht']; simp) (by omega), M.pure_bind, ht']
      have etk : (x :: (w ++ r)).take (x :: w).length = x :: w := by
        show ((x :: w) ++ r).take _ = _
        simp
      rw [etk]
end
theorem reader_eq : m_reader_tokens = (sSeq (sIf (eOr (eNot (eBi .isi (lCons (eVar 0) (lCons (eK (.ty "str")) lNil)))) (eCmp .gt (eBi .len (lCons (eVar 0) lNil)) (eK (.int 4000)))) (sRaise 1 (eK (.int 0))) sPass) (sSeq (sPar [1, 2] [.nil, .e (eK (.int 0))]) (sSeq (sWhile condC bodyC) (sRet (eBi .tuple (lCons (eOwn 1) lNil)))))) := rfl
section
variable {l : List Nat}
theorem isi_str {f : Nat → Nat → Option Bool} {s : Str} : vbi f .isi [.str s, .ty "str"] = some (.bl true) := rfl
theorem guard_run (hl : l.length ≤ sizeLine) (c : Pv.Ctx) {a b d : Slot} : ((eOr (eNot (eBi .isi (lCons (eVar 0) (lCons (eK (.ty "str")) lNil)))) (eCmp .gt (eBi .len (lCons (eVar 0) lNil)) (eK (.int 4000)))) c [.pl (.str (S l)), a, b, d] >>= vb) = pure (decide (4000 < l.length)) := by
  simp only [eOr, eNot, eCmp, eVar, eBi, eK, lCons, lNil, List.getElem?_cons_zero, M.pure_bind, M.assoc, isi_str, opt_pure, vb_bl2, Bool.not_true, Bool.false_eq_true, if_false, len_ok hl, gt_ok]
  congr 1
  exact decide_eq_decide.mpr (by omega)
/-- the reader, on a text it takes -/
theorem reader_ok (h4 : l.length ≤ 4000) (hs : ∀ x ∈ l, x < 1114112) (hn : 4000 < n) {out : List (List Nat × Nat)} (h : Rd 0 l out) : (run P n (k + 3)).1 2 fs [.str (S l)] = pure (.tup (out.map enc)) := by
  have hl : l.length ≤ sizeLine := Nat.le_trans h4 (by rw [sizeLine_eq]; decide)
  rw [run_code (b := m_reader_tokens) rfl rfl, outD_false, reader_eq]
  have e2 : startE 4 [.str (S l)] = [.pl (.str (S l)), .un, .un, .un] := rfl
  rw [e2]
  obtain ⟨e, he⟩ := loop_ok (n := n) (k := k) (fs := fs) hl hs (by omega) h n [] .un (by simp) (by omega) (Nat.zero_le _) (Nat.zero_le _)
  have hc : (ctxOf P n (run P n (k + 2)) false fs).n = n := rfl
  unfold sSeq sIf
  simp only [M.assoc]
  rw [← M.assoc (m := (eOr _ _) _ _), guard_run hl, M.pure_bind, decide_eq_false (by omega), if_neg (by simp)]
  simp only [sPass, M.pure_bind, sPar, runs1, PI1.run, eK, M.assoc, setSl, List.set_cons_succ, List.set_cons_zero, sWhile, hc]
  have he' : wloop (fun ρ' => condC (ctxOf P n (run P n (k + 2)) false fs) ρ' >>= vb) (fun ρ' => bodyC (ctxOf P n (run P n (k + 2)) false fs) ρ') n [.pl (.str (S l)), .own [], .pl (.int 0), .un] = _ := he
  rw [he', M.pure_bind]
  simp only [sRet, eBi, eOwn, lCons, lNil, List.getElem?_cons_succ, List.getElem?_cons_zero, M.pure_bind, M.assoc, vbi, opt_pure, rtD, List.nil_append]
/-- the reader, on a text it does not take -/
theorem reader_bad (h4 : l.length ≤ 4000) (hs : ∀ x ∈ l, x < 1114112) (hn : 4000 < n) {e : Nat} (h : RdE 0 l e) : (run P n (k + 3)).1 2 fs [.str (S l)] = M.raise 1 (some (.int (e : Int))) := by
  have hl : l.length ≤ sizeLine := Nat.le_trans h4 (by rw [sizeLine_eq]; decide)
  rw [run_code (b := m_reader_tokens) rfl rfl, outD_false, reader_eq]
  have e2 : startE 4 [.str (S l)] = [.pl (.str (S l)), .un, .un, .un] := rfl
  rw [e2]
  have he := loop_bad (n := n) (k := k) (fs := fs) hl hs (by omega) h n [] .un (by simp) (by omega) (Nat.zero_le _)
  have hc : (ctxOf P n (run P n (k + 2)) false fs).n = n := rfl
  unfold sSeq sIf
  simp only [M.assoc]
  rw [← M.assoc (m := (eOr _ _) _ _), guard_run hl, M.pure_bind, decide_eq_false (by omega), if_neg (by simp)]
  simp only [sPass, M.pure_bind, sPar, runs1, PI1.run, eK, M.assoc, setSl, List.set_cons_succ, List.set_cons_zero, sWhile, hc]
  have he' : wloop (fun ρ' => condC (ctxOf P n (run P n (k + 2)) false fs) ρ' >>= vb) (fun ρ' => bodyC (ctxOf P n (run P n (k + 2)) false fs) ρ') n [.pl (.str (S l)), .own [], .pl (.int 0), .un] = _ := he
  rw [he', M.raise_bind]
/-- the reader, on a text that is too long -/
theorem reader_long (hl : l.length ≤ sizeLine) (h4 : 4000 < l.length) : (run P n (k + 1)).1 2 fs [.str (S l)] = M.raise 1 (some (.int 0)) := by
  rw [run_code (b := m_reader_tokens) rfl rfl, outD_false, reader_eq]
  have e2 : startE 4 [.str (S l)] = [.pl (.str (S l)), .un, .un, .un] := rfl
  rw [e2]
  unfold sSeq sIf
  simp only [M.assoc]
  rw [← M.assoc (m := (eOr _ _) _ _), guard_run hl, M.pure_bind, decide_eq_true h4, if_pos rfl]
  simp only [sRaise, eK, M.pure_bind, M.raise_bind]
/-- the reader, on what is no text -/
theorem reader_none {d : D} (h : vbi P.sub .isi [d, .ty "str"] = some (.bl false)) : (run P n (k + 1)).1 2 fs [d] = M.raise 1 (some (.int 0)) := by
  rw [run_code (b := m_reader_tokens) rfl rfl, outD_false, reader_eq]
  have e2 : startE 4 [d] = [.pl d, .un, .un, .un] := rfl
  rw [e2]
  have hsub : (ctxOf P n (run P n k) false fs).sub = P.sub := rfl
  simp only [sSeq, sIf, eOr, eNot, eBi, eVar, eK, lCons, lNil, List.getElem?_cons_zero, M.pure_bind, M.assoc, hsub, h, opt_pure, vb_bl2, Bool.not_false, if_true, sRaise, M.raise_bind]
end
end K11
end

section
set_option Elab.async false
set_option linter.all false
set_option maxRecDepth 100000
set_option maxHeartbeats 4000000
namespace K11
open PySem Pv
/-! tokens, gaps -/
inductive Tk : List Nat → Prop
  | sm {w : List Nat} : w ≠ [] → (∀ x ∈ w, x ∈ SM) → w.length ≤ 9 → Tk w
  | dg {w : List Nat} : w ≠ [] → (∀ x ∈ w, x ∈ DG) → w.length ≤ 9 → (w.head? ≠ some 48 ∨ w.length = 1) → Tk w
  | sg {x : Nat} : x ∈ SG → Tk [x]
theorem dj1 : ∀ x ∈ DG, x ∉ SM := by decide
theorem dj2 : ∀ x ∈ SG, x ∉ SM ∧ x ∉ DG := by decide
theorem dw1 : ∀ x ∈ SM, x ∉ [32, 10] := by decide
theorem dw2 : ∀ x ∈ DG, x ∉ [32, 10] := by decide
theorem dw3 : ∀ x ∈ SG, x ∉ [32, 10] := by decide
theorem da1 : ∀ x ∈ SM, Unicode.isAlpha x = true ∧ Unicode.isDigit x = false := by decide +kernel
theorem da2 : ∀ x ∈ DG, Unicode.isAlpha x = false ∧ Unicode.isDigit x = true := by decide +kernel
theorem da3 : ∀ x ∈ SG, Unicode.isAlpha x = false ∧ Unicode.isDigit x = false := by decide +kernel
theorem db1 : ∀ x ∈ SM, x < 128 := by decide
theorem db2 : ∀ x ∈ DG, x < 128 := by decide
theorem db3 : ∀ x ∈ SG, x < 128 := by decide
def al (w : List Nat) : Bool := Txt.isalpha (S w)
def dg (w : List Nat) : Bool := Txt.isdigit (S w)
theorem al_eq (w : List Nat) : al w = (decide (w ≠ []) && w.all Unicode.isAlpha) := by
  unfold al Txt.isalpha
  rw [S_len]
  cases w <;> simp [S]
theorem dg_eq (w : List Nat) : dg w = (decide (w ≠ []) && w.all Unicode.isDigit) := by
  unfold dg Txt.isdigit
  rw [S_len]
  cases w <;> simp [S]
/-- the first sign of what follows does not lengthen w -/
def Bd (w r : List Nat) : Prop := (al w = true → ∀ x r', r = x :: r' → x ∉ SM) ∧ (dg w = true → ∀ x r', r = x :: r' → x ∉ DG)
theorem Tk.sz {w : List Nat} (h : Tk w) : w ≠ [] ∧ w.length ≤ 9 ∧ ∀ x ∈ w, x < 128 := by
  cases h with
  | sm a b c => exact ⟨a, c, fun x hx => db1 x (b x hx)⟩
  | dg a b c d => exact ⟨a, c, fun x hx => db2 x (b x hx)⟩
  | sg a => exact ⟨by simp, by simp, fun x hx => by simp at hx; subst hx; exact db3 x a⟩
theorem tw_app {p : Nat → Bool} {w r : List Nat} (h : ∀ x ∈ w, p x = true) (hr : ∀ x r', r = x :: r' → p x = false) : (w ++ r).takeWhile p = w := by
  rw [List.takeWhile_append_of_pos h]
  cases r with
  | nil => simp
  | cons x r' => rw [List.takeWhile_cons_of_neg (by rw [hr x r' rfl]; simp), List.append_nil]
theorem al_sm {w : List Nat} (h0 : w ≠ []) (h : ∀ x ∈ w, x ∈ SM) : al w = true ∧ dg w = false := by
  rw [al_eq, dg_eq]
  cases w with
  | nil => exact absurd rfl h0
  | cons x r =>
    have hx := da1 x (h x List.mem_cons_self)
    refine ⟨?_, by simp [hx.2]⟩
    simp only [ne_eq, reduceCtorEq, not_false_eq_true, decide_true, Bool.true_and, List.all_eq_true]
    exact fun y hy => (da1 y (h y hy)).1
theorem al_dg {w : List Nat} (h0 : w ≠ []) (h : ∀ x ∈ w, x ∈ DG) : al w = false ∧ dg w = true := by
  rw [al_eq, dg_eq]
  cases w with
  | nil => exact absurd rfl h0
  | cons x r =>
    have hx := da2 x (h x List.mem_cons_self)
    refine ⟨by simp [hx.1], ?_⟩
    simp only [ne_eq, reduceCtorEq, not_false_eq_true, decide_true, Bool.true_and, List.all_eq_true]
    exact fun y hy => (da2 y (h y hy)).2
theorem al_sg {x : Nat} (h : x ∈ SG) : al [x] = false ∧ dg [x] = false := by
  rw [al_eq, dg_eq]
  have hx := da3 x h
  simp [hx.1, hx.2]
theorem Tk.tl_eq {w r : List Nat} (h : Tk w) (hb : Bd w r) : tl (w ++ r) = w.length := by
  cases h with
  | sm a b c =>
    have q := al_sm a b
    have e := tw_app (p := fun x => decide (x ∈ SM)) (w := w) (r := r) (fun x hx => by simpa using b x hx) (fun x r' hr => by simpa using hb.1 q.1 x r' hr)
    cases w with
    | nil => exact absurd rfl a
    | cons y w' =>
      have hy := b y List.mem_cons_self
      show tl (y :: (w' ++ r)) = _
      simp only [tl, if_pos hy]
      rw [show y :: (w' ++ r) = (y :: w') ++ r from rfl, e]
  | dg a b c d =>
    have q := al_dg a b
    have e := tw_app (p := fun x => decide (x ∈ DG)) (w := w) (r := r) (fun x hx => by simpa using b x hx) (fun x r' hr => by simpa using hb.2 q.2 x r' hr)
    cases w with
    | nil => exact absurd rfl a
    | cons y w' =>
      have hy := b y List.mem_cons_self
      show tl (y :: (w' ++ r)) = _
      simp only [tl, if_neg (dj1 y hy), if_pos hy]
      rw [show y :: (w' ++ r) = (y :: w') ++ r from rfl, e, if_pos]
      refine ⟨c, ?_⟩
      rcases d with d | d
      · exact .inl (by simpa using d)
      · exact .inr d
  | @sg x hx =>
    show tl (x :: r) = 1
    simp only [tl, if_neg (dj2 x hx).1, if_neg (dj2 x hx).2, if_pos hx]
theorem Tk.nw {x : Nat} {w : List Nat} (h : Tk (x :: w)) : x ∉ [32, 10] := by
  cases h with
  | sm a b c => exact dw1 x (b x List.mem_cons_self)
  | dg a b c d => exact dw2 x (b x List.mem_cons_self)
  | sg hx => exact dw3 x hx
theorem Rd.tk {w r : List Nat} {i : Nat} {out : List (List Nat × Nat)} (h : Tk w) (hb : Bd w r) (hr : Rd (i + w.length) r out) : Rd i (w ++ r) ((w, i) :: out) := by
  cases w with
  | nil => exact absurd rfl h.sz.1
  | cons x w => exact .tok h.nw (h.tl_eq hb) hr
theorem RdE.tk {w r : List Nat} {i e : Nat} (h : Tk w) (hb : Bd w r) (hr : RdE (i + w.length) r e) : RdE i (w ++ r) e := by
  cases w with
  | nil => exact absurd rfl h.sz.1
  | cons x w => exact .tok h.nw (h.tl_eq hb) hr
theorem Rd.gap {r : List Nat} {out : List (List Nat × Nat)} : ∀ {g : List Nat} {i : Nat}, (∀ x ∈ g, x ∈ [32, 10]) → Rd (i + g.length) r out → Rd i (g ++ r) out
  | [], i, _, h => h
  | x :: g, i, hg, h => .ws (hg x List.mem_cons_self) (Rd.gap (fun y hy => hg y (List.mem_cons_of_mem _ hy)) (by rw [show i + 1 + g.length = i + (x :: g).length by simp; omega]; exact h))
theorem RdE.gap {r : List Nat} {e : Nat} : ∀ {g : List Nat} {i : Nat}, (∀ x ∈ g, x ∈ [32, 10]) → RdE (i + g.length) r e → RdE i (g ++ r) e
  | [], i, _, h => h
  | x :: g, i, hg, h => .ws (hg x List.mem_cons_self) (RdE.gap (fun y hy => hg y (List.mem_cons_of_mem _ hy)) (by rw [show i + 1 + g.length = i + (x :: g).length by simp; omega]; exact h))
/-- a text that is being spread -/
structure Sp (T : List Nat) (ws : List (List Nat)) (ps : List Nat) (last : List Nat) : Prop where
  len : ps.length = ws.length
  lst : last = [] ∨ Tk last
  sz : T.length ≤ 2 + 11 * ws.length
  cps : ∀ x ∈ T, x < 128
  pl : ∀ p ∈ ps, p ≤ T.length
  rd : ∀ r out, Bd last r → Rd T.length r out → Rd 0 (T ++ r) (ws.zip ps ++ out)
  rdE : ∀ r e, Bd last r → RdE T.length r e → RdE 0 (T ++ r) e
theorem w128 {g : List Nat} (hg : ∀ x ∈ g, x ∈ [32, 10]) : ∀ x ∈ g, x < 128 := fun x hx => by
  have := hg x hx
  simp at this
  omega
theorem Sp.start {g : List Nat} (hg : ∀ x ∈ g, x ∈ [32, 10]) (hl : g.length ≤ 2) : Sp g [] [] [] :=
  ⟨rfl, .inl rfl, by simp; omega, w128 hg, by simp, fun r out _ h => Rd.gap hg (by simpa using h), fun r e _ h => RdE.gap hg (by simpa using h)⟩
theorem bd_gap {last g r : List Nat} (hg : ∀ x ∈ g, x ∈ [32, 10]) (h : g = [] → Bd last r) : Bd last (g ++ r) := by
  cases g with
  | nil => exact h rfl
  | cons x g =>
    have hx := hg x List.mem_cons_self
    have h1 : x ∉ SM := fun z => dw1 x z hx
    have h2 : x ∉ DG := fun z => dw2 x z hx
    exact ⟨fun _ y r' e => by cases e; exact h1, fun _ y r' e => by cases e; exact h2⟩
theorem bd_tok {last w r : List Nat} (hw : Tk w) (hj : ((al last && al w) || (dg last && dg w)) = false) : Bd last (w ++ r) := by
  rw [Bool.or_eq_false_iff, Bool.and_eq_false_iff, Bool.and_eq_false_iff] at hj
  obtain ⟨h1, h2⟩ := hj
  refine ⟨fun ha x r' e => ?_, fun hd x r' e => ?_⟩
  · have hal : al w = false := h1.resolve_left (by rw [ha]; simp)
    cases hw with
    | sm a b c => rw [(al_sm a b).1] at hal; cases hal
    | dg a b c d =>
      cases w with
      | nil => exact absurd rfl a
      | cons y w => cases e; exact dj1 _ (b _ List.mem_cons_self)
    | sg hx => cases e; exact (dj2 _ hx).1
  · have hdg : dg w = false := h2.resolve_left (by rw [hd]; simp)
    cases hw with
    | sm a b c =>
      cases w with
      | nil => exact absurd rfl a
      | cons y w => cases e; exact fun z => dj1 _ z (b _ List.mem_cons_self)
    | dg a b c d => rw [(al_dg a b).2] at hdg; cases hdg
    | sg hx => cases e; exact (dj2 _ hx).2
theorem Sp.step {T g w last : List Nat} {ws : List (List Nat)} {ps : List Nat} (h : Sp T ws ps last) (hg : ∀ x ∈ g, x ∈ [32, 10]) (hl : g.length ≤ 2) (hw : Tk w) (hj : g = [] → ((al last && al w) || (dg last && dg w)) = false) :
    Sp (T ++ g ++ w) (ws ++ [w]) (ps ++ [(T ++ g).length]) w := by
  have sz := hw.sz
  refine ⟨by simp [h.len], .inr hw, by have := h.sz; simp; omega, fun x hx => ?_, fun p hp => ?_, fun r out hb hr => ?_, fun r e hb hr => ?_⟩
  · rcases List.mem_append.mp hx with hx | hx
    · rcases List.mem_append.mp hx with hx | hx
      · exact h.cps x hx
      · exact w128 hg x hx
    · exact sz.2.2 x hx
  · rcases List.mem_append.mp hp with hp | hp
    · have := h.pl p hp
      simp
      omega
    · simp at hp
      subst hp
      simp
  · have e : T ++ g ++ w ++ r = T ++ (g ++ (w ++ r)) := by simp
    have e2 : (ws ++ [w]).zip (ps ++ [(T ++ g).length]) ++ out = ws.zip ps ++ ((w, (T ++ g).length) :: out) := by
      rw [List.zip_append h.len.symm]
      simp
    rw [e, e2]
    refine h.rd _ _ (bd_gap hg fun z => bd_tok hw (hj z)) (Rd.gap hg ?_)
    rw [show T.length + g.length = (T ++ g).length by simp]
    refine Rd.tk hw hb ?_
    rw [show (T ++ g).length + w.length = (T ++ g ++ w).length by simp [Nat.add_assoc]]
    exact hr
  · have e : T ++ g ++ w ++ r = T ++ (g ++ (w ++ r)) := by simp
    rw [e]
    refine h.rdE _ _ (bd_gap hg fun z => bd_tok hw (hj z)) (RdE.gap hg ?_)
    rw [show T.length + g.length = (T ++ g).length by simp]
    refine RdE.tk hw hb ?_
    rw [show (T ++ g).length + w.length = (T ++ g ++ w).length by simp [Nat.add_assoc]]
    exact hr
/-- what follows does not begin with a letter or a figure -/
def Nj (r : List Nat) : Prop := ∀ x r', r = x :: r' → x ∉ SM ∧ x ∉ DG
/-- a text that is spread -/
structure SpF (T : List Nat) (ws : List (List Nat)) (ps : List Nat) : Prop where
  len : ps.length = ws.length
  sz : T.length ≤ 4 + 11 * ws.length
  cps : ∀ x ∈ T, x < 128
  pl : ∀ p ∈ ps, p ≤ T.length
  rd : ∀ r out, Nj r → Rd T.length r out → Rd 0 (T ++ r) (ws.zip ps ++ out)
  rdE : ∀ r e, Nj r → RdE T.length r e → RdE 0 (T ++ r) e
theorem Sp.fin {T g last : List Nat} {ws : List (List Nat)} {ps : List Nat} (h : Sp T ws ps last) (hg : ∀ x ∈ g, x ∈ [32, 10]) (hl : g.length ≤ 2) : SpF (T ++ g) ws ps := by
  refine ⟨h.len, by have := h.sz; simp; omega, fun x hx => ?_, fun p hp => by have := h.pl p hp; simp; omega, fun r out hb hr => ?_, fun r e hb hr => ?_⟩
  · rcases List.mem_append.mp hx with hx | hx
    · exact h.cps x hx
    · exact w128 hg x hx
  · rw [List.append_assoc]
    refine h.rd _ _ (bd_gap hg fun _ => ⟨fun _ x r' e => (hb x r' e).1, fun _ x r' e => (hb x r' e).2⟩) (Rd.gap hg ?_)
    rw [show T.length + g.length = (T ++ g).length by simp]
    exact hr
  · rw [List.append_assoc]
    refine h.rdE _ _ (bd_gap hg fun _ => ⟨fun _ x r' e => (hb x r' e).1, fun _ x r' e => (hb x r' e).2⟩) (RdE.gap hg ?_)
    rw [show T.length + g.length = (T ++ g).length by simp]
    exact hr
/-! the draws of this law -/
variable {n k : Nat} {fs : List Env1}
theorem eB (hn : 63 < n) {xs : List D} (h0 : xs ≠ []) (hz : xs.length < 2 ^ 64) : Ok Gd ((run P n (k + 3)).1 6 fs [.draw, .lst xs]) fun d => d ∈ xs := pick_ok (ib := 4) (it := 5) rfl rfl rfl hn h0 hz
theorem eT (hn : 63 < n) {z : Int} (h0 : 0 < z) (hz : z.natAbs.log2 < 9000) : Ok Gd ((run P n (k + 2)).1 5 fs [.draw, .int z]) fun d => ∃ r, d = .int r ∧ 0 ≤ r ∧ r < z := take_ok (ib := 4) rfl rfl hn h0 hz
theorem s_e : ("" : Str) = S [] := by decide +kernel
theorem s_s : (" " : Str) = S [32] := by decide +kernel
theorem s_n : ("\n" : Str) = S [10] := by decide +kernel
theorem s_ss : ("  " : Str) = S [32, 32] := by decide +kernel
theorem cat_ok {a b : List Nat} (h : a.length + b.length ≤ sizeLine) : vbin .add (.str (S a)) (.str (S b)) = some (.str (S (a ++ b))) := by
  show (if (S a).length + (S b).length ≤ sizeLine then some (D.str (S a ++ S b)) else none) = _
  rw [S_len, S_len, if_pos h, S_app]
theorem sz1000 {m : Nat} (h : m ≤ 5000) : m ≤ sizeLine := Nat.le_trans h (by rw [sizeLine_eq]; decide)
/-- text + pick(draw, [..]): a gap -/
theorem gap_ok (hn : 63 < n) {c : Pv.Ctx} {ρ : Env1} {es : CL} {xs : List (List Nat)} {T : List Nat} (hc : ∀ ρ, c.call 6 (c.now ρ) = (run P n (k + 3)).1 6 fs) (h0 : ρ[0]? = some (.pl .draw)) (h2 : ρ[2]? = some (.pl (.str (S T)))) (hT : T.length ≤ 1000)
    (he : es c ρ = pure (xs.map fun g => D.str (S g))) (hx : xs ≠ []) (hl : xs.length ≤ 20) (hg : ∀ g ∈ xs, g.length ≤ 2) : Ok Gd ((eBin .add (eVar 2) (eCall 6 (lCons (eVar 0) (lCons (eLst es) lNil)))) c ρ) fun d => ∃ g, g ∈ xs ∧ d = .str (S (T ++ g)) := by
  have e : (eBin .add (eVar 2) (eCall 6 (lCons (eVar 0) (lCons (eLst es) lNil)))) c ρ = ((run P n (k + 3)).1 6 fs [.draw, .lst (xs.map fun g => D.str (S g))] >>= fun y => M.opt (vbin .add (.str (S T)) y)) := by
    simp only [eBin, eVar, h2, h0, M.pure_bind, eCall, lCons, lNil, eLst, he, M.assoc, List.length_map, if_pos (show xs.length ≤ 1000 by omega), hc]
  rw [e]
  refine Ok.bind (eB hn (by simpa using hx) (by rw [List.length_map]; omega)) fun d hd => ?_
  obtain ⟨g, hg1, rfl⟩ := List.mem_map.mp hd
  rw [cat_ok (sz1000 (by have := hg g hg1; omega))]
  exact Ok.pure ⟨g, hg1, rfl⟩
/-- _law_joins -/
theorem joins_run {a b : List Nat} : (run P n (k + 1)).1 10 fs [.str (S a), .str (S b)] = pure (.bl ((al a && al b) || (dg a && dg b))) := by
  rw [run_code (b := m__law_joins) rfl rfl, outD_false]
  have e2 : startE 2 [.str (S a), .str (S b)] = [.pl (.str (S a)), .pl (.str (S b))] := rfl
  rw [e2]
  have v1 : ∀ w, vme .isalpha (.str (S w)) [] = some (.bl (al w)) := fun w => rfl
  have v2 : ∀ w, vme .isdigit (.str (S w)) [] = some (.bl (dg w)) := fun w => rfl
  simp only [m__law_joins, sRet, eOr, eAnd, eMe, eVar, lNil, List.getElem?_cons_zero, List.getElem?_cons_succ, M.pure_bind, M.assoc, isStrD, if_true, v1, v2, opt_pure, vb_bl2]
  cases al a <;> cases al b <;> cases dg a <;> cases dg b <;> rfl
def sprB : CS := (sSeq (sIf (eCall 10 (lCons (eVar 4) (lCons (eVar 5) lNil))) (sAsg 2 (eBin .add (eVar 2) (eCall 6 (lCons (eVar 0) (lCons (eLst (lCons (eK (.str " ")) (lCons (eK (.str "\n")) (lCons (eK (.str "  ")) lNil)))) lNil))))) (sAsg 2 (eBin .add (eVar 2) (eCall 6 (lCons (eVar 0) (lCons (eLst (lCons (eK (.str "")) (lCons (eK (.str "")) (lCons (eK (.str " ")) (lCons (eK (.str "\n")) lNil))))) lNil)))))) (sSeq (sApp 3 (eBi .len (lCons (eVar 2) lNil))) (sPar [2, 4] [.e (eBin .add (eVar 2) (eVar 5)), .e (eVar 5)])))
theorem spread_eq : m__law_spread = (sSeq (sPar [2, 3, 4] [.e (eCall 6 (lCons (eVar 0) (lCons (eLst (lCons (eK (.str "")) (lCons (eK (.str " ")) (lCons (eK (.str "\n")) lNil)))) lNil))), .nil, .e (eK (.str ""))]) (sSeq (sFor (.name 5) (iOver (eVar 1)) sprB) (sSeq (sFreeze 3) (sRet (eTup (lCons (eBin .add (eVar 2) (eCall 6 (lCons (eVar 0) (lCons (eLst (lCons (eK (.str "")) (lCons (eK (.str " ")) (lCons (eK (.str "\n")) lNil)))) lNil)))) (lCons (eVar 3) lNil))))))) := rfl
def sprE (toks : D) (T : List Nat) (ps : List Nat) (last : List Nat) (e5 : Slot) : Env1 := [.pl .draw, .pl toks, .pl (.str (S T)), .own (ps.map fun (p : Nat) => D.int (p : Int)), .pl (.str (S last)), e5]
theorem gw1 : ∀ g ∈ ([[32], [10], [32, 32]] : List (List Nat)), (∀ x ∈ g, x ∈ [32, 10]) ∧ g.length ≤ 2 ∧ g ≠ [] := by decide
theorem gw2 : ∀ g ∈ ([[], [], [32], [10]] : List (List Nat)), (∀ x ∈ g, x ∈ [32, 10]) ∧ g.length ≤ 2 := by decide
theorem gw3 : ∀ g ∈ ([[], [32], [10]] : List (List Nat)), (∀ x ∈ g, x ∈ [32, 10]) ∧ g.length ≤ 2 := by decide
theorem sprB_ok (hn : 63 < n) {c : Pv.Ctx} (hc : ∀ ρ, c.call 6 (c.now ρ) = (run P n (k + 3)).1 6 fs) (hj : ∀ ρ, c.call 10 (c.now ρ) = (run P n (k + 3)).1 10 fs) {toks : D} {T w last : List Nat} {ws : List (List Nat)} {ps : List Nat} (h : Sp T ws ps last) (hw : Tk w) (hl : ws.length ≤ 20) :
    Ok Gd (sprB c (sprE toks T ps last (.pl (.str (S w))))) fun q => ∃ T' p, q = .nx (sprE toks T' (ps ++ [p]) w (.pl (.str (S w)))) ∧ Sp T' (ws ++ [w]) (ps ++ [p]) w := by
  have hT : T.length ≤ 300 := by have := h.sz; omega
  -- the text with its gap
  have gap : Ok Gd ((sIf (eCall 10 (lCons (eVar 4) (lCons (eVar 5) lNil))) (sAsg 2 (eBin .add (eVar 2) (eCall 6 (lCons (eVar 0) (lCons (eLst (lCons (eK (.str " ")) (lCons (eK (.str "\n")) (lCons (eK (.str "  ")) lNil)))) lNil))))) (sAsg 2 (eBin .add (eVar 2) (eCall 6 (lCons (eVar 0) (lCons (eLst (lCons (eK (.str "")) (lCons (eK (.str "")) (lCons (eK (.str " ")) (lCons (eK (.str "\n")) lNil))))) lNil)))))) c (sprE toks T ps last (.pl (.str (S w)))))
      fun q => ∃ g : List Nat, q = .nx (sprE toks (T ++ g) ps last (.pl (.str (S w)))) ∧ (∀ x ∈ g, x ∈ [32, 10]) ∧ g.length ≤ 2 ∧ (g = [] → ((al last && al w) || (dg last && dg w)) = false) := by
    have e1 : (eCall 10 (lCons (eVar 4) (lCons (eVar 5) lNil))) c (sprE toks T ps last (.pl (.str (S w)))) = pure (.bl ((al last && al w) || (dg last && dg w))) := by
      have := joins_run (n := n) (k := k + 2) (fs := fs) (a := last) (b := w)
      simp only [eCall, lCons, lNil, eVar, sprE, List.getElem?_cons_succ, List.getElem?_cons_zero, M.pure_bind, M.assoc, hj, this]
    unfold sIf
    rw [e1, M.pure_bind, vb_bl2, M.pure_bind]
    cases hjj : ((al last && al w) || (dg last && dg w)) with
    | true =>
      rw [if_pos rfl]
      unfold sAsg
      refine Ok.bind (gap_ok (T := T) (xs := [[32], [10], [32, 32]]) hn hc rfl rfl (by omega) ?_ (by simp) (by simp) (by decide)) fun d hd => ?_
      · simp only [lCons, lNil, eK, M.pure_bind, s_s, s_n, s_ss, List.map_cons, List.map_nil]
      · obtain ⟨g, hg, rfl⟩ := hd
        have q := gw1 g hg
        exact Ok.pure ⟨g, rfl, q.1, q.2.1, fun z => absurd z q.2.2⟩
    | false =>
      rw [if_neg (by simp)]
      unfold sAsg
      refine Ok.bind (gap_ok (T := T) (xs := [[], [], [32], [10]]) hn hc rfl rfl (by omega) ?_ (by simp) (by simp) (by decide)) fun d hd => ?_
      · simp only [lCons, lNil, eK, M.pure_bind, s_s, s_n, s_e, List.map_cons, List.map_nil]
      · obtain ⟨g, hg, rfl⟩ := hd
        have q := gw2 g hg
        exact Ok.pure ⟨g, rfl, q.1, q.2, fun _ => rfl⟩
  unfold sprB
  show Ok Gd ((sIf _ _ _) c _ >>= _) _
  refine Ok.bind gap fun q hq => ?_
  obtain ⟨g, rfl, g1, g2, g3⟩ := hq
  have hps : ps.length < sizeLine := by
    have := h.len
    exact Nat.lt_of_le_of_lt (show ps.length ≤ 20 by omega) (by rw [sizeLine_eq]; decide)
  have hw9 := hw.sz.2.1
  have e3 : vbi c.sub .len [.str (S (T ++ g))] = some (.int ((T ++ g).length : Int)) := len_ok (sz1000 (by simp; omega))
  have e4 : vbin .add (.str (S (T ++ g))) (.str (S w)) = some (.str (S (T ++ g ++ w))) := cat_ok (sz1000 (by simp; omega))
  refine Ok.eq (m' := pure (.nx (sprE toks (T ++ g ++ w) (ps ++ [(T ++ g).length]) w (.pl (.str (S w)))))) ?_ (Ok.pure ⟨_, _, rfl, h.step g1 g2 hw g3⟩)
  simp only [sSeq, sApp, sprE, eBi, lCons, lNil, eVar, List.getElem?_cons_succ, List.getElem?_cons_zero, M.pure_bind, M.assoc, e3, opt_pure, List.length_map, if_pos hps, List.set_cons_succ, List.set_cons_zero, sPar, runs1, PI1.run, eBin, e4, setSl, List.map_append, List.map_cons, List.map_nil]
def toksD (ws : List (List Nat)) : List D := ws.map fun w => D.str (S w)
theorem sprL_ok (hn : 63 < n) {c : Pv.Ctx} (hc : ∀ ρ, c.call 6 (c.now ρ) = (run P n (k + 3)).1 6 fs) (hj : ∀ ρ, c.call 10 (c.now ρ) = (run P n (k + 3)).1 10 fs) {toks : D} : ∀ (rest : List (List Nat)) {T last : List Nat} {ws : List (List Nat)} {ps : List Nat} {e5 : Slot}, Sp T ws ps last → (∀ w ∈ rest, Tk w) → ws.length + rest.length ≤ 20 →
    Ok Gd (floop (.name 5) (fun ρ' => sprB c ρ') (toksD rest) (sprE toks T ps last e5)) fun q => ∃ T' ps' last' e', q = .nx (sprE toks T' ps' last' e') ∧ Sp T' (ws ++ rest) ps' last'
  | [], T, last, ws, ps, e5, h, _, _ => Ok.pure ⟨T, ps, last, e5, rfl, by simpa using h⟩
  | w :: rest, T, last, ws, ps, e5, h, hw, hl => by
    show Ok Gd (M.opt (bindTg (.name 5) (.str (S w)) (sprE toks T ps last e5)) >>= _) _
    have e : bindTg (.name 5) (.str (S w)) (sprE toks T ps last e5) = some (sprE toks T ps last (.pl (.str (S w)))) := rfl
    rw [e, opt_pure, M.pure_bind]
    simp only [List.length_cons] at hl
    refine Ok.bind (sprB_ok hn hc hj h (hw w List.mem_cons_self) (by omega)) fun q hq => ?_
    obtain ⟨T', p, rfl, h2⟩ := hq
    refine Ok.imp (sprL_ok hn hc hj rest h2 (fun v hv => hw v (List.mem_cons_of_mem _ hv)) (by simp; omega)) fun q hq => ?_
    obtain ⟨T2, ps2, last2, e2, rfl, h3⟩ := hq
    exact ⟨T2, ps2, last2, e2, rfl, by simpa using h3⟩
/-- _law_spread -/
theorem spread_ok (hn : 63 < n) {ws : List (List Nat)} (hw : ∀ w ∈ ws, Tk w) (hl : ws.length ≤ 20) : Ok Gd ((run P n (k + 4)).1 11 fs [.draw, .lst (toksD ws)]) fun d => ∃ T ps, d = .tup [.str (S T), .lst (ps.map fun (p : Nat) => D.int (p : Int))] ∧ SpF T ws ps := by
  rw [run_code (b := m__law_spread) rfl rfl, outD_false, spread_eq]
  have e2 : startE 6 [.draw, .lst (toksD ws)] = [.pl .draw, .pl (.lst (toksD ws)), .un, .un, .un, .un] := rfl
  rw [e2]
  generalize hcc : ctxOf P n (run P n (k + 3)) false fs = c
  have hc : ∀ ρ, c.call 6 (c.now ρ) = (run P n (k + 3)).1 6 fs := fun ρ => by rw [← hcc]; rfl
  have hj : ∀ ρ, c.call 10 (c.now ρ) = (run P n (k + 3)).1 10 fs := fun ρ => by rw [← hcc]; rfl
  have st : Ok Gd ((sPar [2, 3, 4] [.e (eCall 6 (lCons (eVar 0) (lCons (eLst (lCons (eK (.str "")) (lCons (eK (.str " ")) (lCons (eK (.str "\n")) lNil)))) lNil))), .nil, .e (eK (.str ""))]) c [.pl .draw, .pl (.lst (toksD ws)), .un, .un, .un, .un])
      fun q => ∃ g : List Nat, q = .nx (sprE (.lst (toksD ws)) g [] [] .un) ∧ (∀ x ∈ g, x ∈ [32, 10]) ∧ g.length ≤ 2 := by
    have e : (sPar [2, 3, 4] [.e (eCall 6 (lCons (eVar 0) (lCons (eLst (lCons (eK (.str "")) (lCons (eK (.str " ")) (lCons (eK (.str "\n")) lNil)))) lNil))), .nil, .e (eK (.str ""))]) c [.pl .draw, .pl (.lst (toksD ws)), .un, .un, .un, .un] =
        ((run P n (k + 3)).1 6 fs [.draw, .lst ([[], [32], [10]].map fun g => D.str (S g))] >>= fun x => pure (.nx [.pl .draw, .pl (.lst (toksD ws)), .pl x, .own [], .pl (.str (S [])), .un])) := by
      simp only [sPar, runs1, PI1.run, eCall, lCons, lNil, eVar, eLst, eK, List.getElem?_cons_zero, M.pure_bind, M.assoc, List.length_cons, List.length_nil, Nat.reduceAdd, Nat.reduceLeDiff, if_true, hc, s_e, s_s, s_n, setSl, List.set_cons_succ, List.set_cons_zero, List.map_cons, List.map_nil]
    rw [e]
    refine Ok.bind (eB hn (by simp) (by simp)) fun d hd => ?_
    obtain ⟨g, hg, rfl⟩ := List.mem_map.mp hd
    have q := gw3 g hg
    exact Ok.pure ⟨g, rfl, q.1, q.2⟩
  refine Ok.eq (M.assoc _ _ _) ?_
  refine Ok.bind st fun q hq => ?_
  obtain ⟨g, rfl, g1, g2⟩ := hq
  show Ok Gd ((sSeq _ _) c _ >>= rtD) _
  unfold sSeq
  refine Ok.eq (M.assoc _ _ _) ?_
  have fr : (sFor (.name 5) (iOver (eVar 1)) sprB) c (sprE (.lst (toksD ws)) g [] [] .un) = floop (.name 5) (fun ρ' => sprB c ρ') (toksD ws) (sprE (.lst (toksD ws)) g [] [] .un) := rfl
  rw [fr]
  refine Ok.bind (sprL_ok hn hc hj ws (Sp.start g1 g2) hw (by simpa using hl)) fun q hq => ?_
  obtain ⟨T, ps, last, e5, rfl, h⟩ := hq
  rw [List.nil_append] at h
  have hT : T.length ≤ 300 := by have := h.sz; omega
  have e : (((sFreeze 3) c (sprE (.lst (toksD ws)) T ps last e5) >>= fun q => match q with | .nx ρ' => (sRet (eTup (lCons (eBin .add (eVar 2) (eCall 6 (lCons (eVar 0) (lCons (eLst (lCons (eK (.str "")) (lCons (eK (.str " ")) (lCons (eK (.str "\n")) lNil)))) lNil)))) (lCons (eVar 3) lNil)))) c ρ' | o => pure o) >>= rtD) =
      ((eBin .add (eVar 2) (eCall 6 (lCons (eVar 0) (lCons (eLst (lCons (eK (.str "")) (lCons (eK (.str " ")) (lCons (eK (.str "\n")) lNil)))) lNil)))) c [.pl .draw, .pl (.lst (toksD ws)), .pl (.str (S T)), .pl (.lst (ps.map fun (p : Nat) => D.int (p : Int))), .pl (.str (S last)), e5] >>= fun x => pure (.tup [x, .lst (ps.map fun (p : Nat) => D.int (p : Int))])) := by
    simp only [sFreeze, sprE, List.getElem?_cons_succ, List.getElem?_cons_zero, M.pure_bind, List.set_cons_succ, List.set_cons_zero, sRet, eTup, lCons, lNil, M.assoc]
    congr 1
  show Ok Gd (((sFreeze 3) c _ >>= _) >>= rtD) _
  refine Ok.eq e ?_
  refine Ok.bind (gap_ok (T := T) (xs := [[], [32], [10]]) hn hc rfl rfl (by omega) ?_ (by simp) (by simp) (by decide)) fun d hd => ?_
  · simp only [lCons, lNil, eK, M.pure_bind, s_s, s_n, s_e, List.map_cons, List.map_nil]
  · obtain ⟨g, hg, rfl⟩ := hd
    have q := gw3 g hg
    exact Ok.pure ⟨T ++ g, ps, rfl, h.fin q.1 q.2⟩
end K11
end

section
set_option Elab.async false
set_option linter.all false
set_option maxRecDepth 100000
set_option maxHeartbeats 4000000
namespace K11
open PySem Pv
/-! one token drawn -/
theorem join_signs : ∀ l : List Nat, Txt.join (S []) (l.map fun x => S [x]) = S l := fun l => by
  show Builtin.Str.glued _ _ = _
  rw [StrLaws.glued_eq_join]
  have cat : ∀ x : Nat, ∀ r : List Nat, S [x] ++ S [] ++ S r = S (x :: r) := fun x r => by
    rw [S_app, S_app]
    rfl
  have key : ∀ (r : List Nat) (x : Nat), Str.join (S []) ((x :: r).map fun x => S [x]) = S (x :: r) := by
    intro r
    induction r with
    | nil => intro x; rfl
    | cons y r ih =>
      intro x
      show S [x] ++ S [] ++ Str.join (S []) ((y :: r).map fun x => S [x]) = _
      rw [ih y, cat]
  cases l with
  | nil => rfl
  | cons x r => exact key r x
/-- the figures of a number -/
def figs (v : Nat) : List Nat := (Nat.toDigits 10 v).map Char.toNat
theorem figs_str (v : Nat) : (Str.ofString (toString (v : Int)) : Str) = S (figs v) := by
  show Str.ofString (toString v) = _
  rw [Nat.toString_eq_ofList_toDigits, W.Fast.ofString_ofList]
  rfl
theorem figs_len {v k : Nat} (hk : 0 < k) : (figs v).length ≤ k ↔ v < 10 ^ k := by
  unfold figs
  rw [List.length_map]
  exact Nat.length_toDigits_le_iff (by decide) hk
theorem figs_ne (v : Nat) : figs v ≠ [] := by
  unfold figs
  simp [Nat.toDigits_ne_nil]
theorem figs_dg (v : Nat) : ∀ x ∈ figs v, x ∈ DG := fun x hx => by
  obtain ⟨c, hc, rfl⟩ := List.mem_map.mp hx
  have q := Nat.isDigit_of_mem_toDigits (by decide) (by decide) hc
  simp only [Char.isDigit, ge_iff_le, Bool.and_eq_true, decide_eq_true_eq] at q
  have h1 : 48 ≤ c.toNat := q.1
  have h2 : c.toNat ≤ 57 := q.2
  generalize c.toNat = m at h1 h2
  have : m = 48 ∨ m = 49 ∨ m = 50 ∨ m = 51 ∨ m = 52 ∨ m = 53 ∨ m = 54 ∨ m = 55 ∨ m = 56 ∨ m = 57 := by omega
  simp only [DG, List.mem_cons, List.not_mem_nil, or_false]
  exact this
theorem figs_hd : ∀ v : Nat, 1 ≤ v → (figs v).head? ≠ some 48 := fun v => by
  induction v using Nat.strongRecOn with
  | _ v ih =>
    intro hv
    unfold figs
    rw [Nat.toDigits_eq_if (by decide)]
    by_cases h : v < 10
    · rw [if_pos h]
      have : v = 1 ∨ v = 2 ∨ v = 3 ∨ v = 4 ∨ v = 5 ∨ v = 6 ∨ v = 7 ∨ v = 8 ∨ v = 9 := by omega
      rcases this with rfl | rfl | rfl | rfl | rfl | rfl | rfl | rfl | rfl <;> decide
    · rw [if_neg h]
      have q := ih (v / 10) (by omega) (by omega)
      unfold figs at q
      cases e : Nat.toDigits 10 (v / 10) with
      | nil => exact absurd e Nat.toDigits_ne_nil
      | cons c r =>
        rw [e] at q
        simpa using q
theorem figs_tk {v : Nat} (h1 : 1 ≤ v) (h9 : v < 10 ^ 9) : Tk (figs v) := .dg (figs_ne v) (figs_dg v) ((figs_len (by decide)).mpr h9) (.inl (figs_hd v h1))
theorem str_ok {f : Nat → Nat → Option Bool} {v : Nat} (h : v < 10 ^ 20) : vbi f .str [.int (v : Int)] = some (.str (S (figs v))) := by
  show (if ((v : Int)).natAbs.log2 < 1920 then some (D.str (Str.ofString (toString (v : Int)))) else none) = _
  have e : ((v : Int)).natAbs = v := rfl
  have lg : v.log2 < 1920 := by
    by_cases h0 : v = 0
    · subst h0
      decide
    · exact (Nat.log2_lt h0).mpr (Nat.lt_of_lt_of_le h (by decide))
  rw [e, if_pos lg, figs_str]
section
variable {I : DS → Prop} {n k : Nat} {fs : List Env1}
theorem Ok.nx {α : Type} {m : M α} {Q : α → Prop} (h : Ok I m Q) : Ok I (Pv.nx m) Q := fun s hs => by
  obtain ⟨a, s1, e, h1, hq⟩ := h s hs
  refine ⟨a, s1, ?_, h1, hq⟩
  unfold Pv.nx
  rw [e]
theorem mloop_Ok {f : D → List D → M (List D)} {R : D → Prop} : ∀ (xs : List D) (acc : List D), (∀ x ∈ xs, ∀ acc, acc.length < 1000 → Ok I (f x acc) fun a => ∃ y, a = acc ++ [y] ∧ R y) → acc.length + xs.length ≤ 1000 → Ok I (mloop f xs acc) fun ys => ∃ zs, ys = acc ++ zs ∧ zs.length = xs.length ∧ ∀ z ∈ zs, R z
  | [], acc, _, _ => Ok.pure ⟨[], by simp, rfl, by simp⟩
  | x :: xs, acc, h, hl => by
    simp only [List.length_cons] at hl
    refine Ok.bind (h x List.mem_cons_self acc (by omega)) fun a ha => ?_
    obtain ⟨y, rfl, hy⟩ := ha
    refine Ok.imp (mloop_Ok xs (acc ++ [y]) (fun z hz => h z (List.mem_cons_of_mem _ hz)) (by simp; omega)) fun ys hys => ?_
    obtain ⟨zs, rfl, h2, h3⟩ := hys
    refine ⟨y :: zs, by simp, by simp [h2], fun z hz => ?_⟩
    rcases List.mem_cons.mp hz with rfl | hz
    · exact hy
    · exact h3 z hz
/-- [el for k in range(..)] -/
theorem comp_Ok {c : Pv.Ctx} {ρ : Env1} {ix j : Nat} {it : CL} {el : CE} {Pm : Nat → Prop} {R : D → Prop} (hit : Ok I (it c ρ) fun xs => ∃ m, Pm m ∧ m ≤ 1000 ∧ xs = (List.range m).map fun (k : Nat) => D.int (k : Int))
    (he : ∀ x, Ok I (el { c with fl := false, fs := [] } ((wipeE (ρ.map cleanS) [ix]).set j (.pl x))) R) : Ok I ((eComp [ix] (.name j) it (eK (.bl true)) el) c ρ) fun d => ∃ zs, d = .lst zs ∧ Pm zs.length ∧ ∀ z ∈ zs, R z := by
  unfold eComp
  refine Ok.bind hit fun xs hxs => ?_
  obtain ⟨m, hm, hm1, rfl⟩ := hxs
  have hn : noLams 0 ((List.range m).map fun (k : Nat) => D.int (k : Int)) = true := by
    have key : ∀ l : List Nat, noLams 0 (l.map fun (k : Nat) => D.int (k : Int)) = true := fun l => by
      induction l with
      | nil => rfl
      | cons x l ih =>
        show (noLam 0 (.int x) && noLams 0 (l.map _)) = true
        rw [ih]
        rfl
    exact key _
  rw [if_pos hn]
  refine Ok.bind (mloop_Ok (R := R) _ [] (fun x _ acc hacc => ?_) (by simpa using hm1)) fun ys hys => ?_
  · have e : bindTg (.name j) x (wipeE (ρ.map cleanS) [ix]) = some ((wipeE (ρ.map cleanS) [ix]).set j (.pl x)) := rfl
    rw [e, opt_pure, M.pure_bind]
    show Ok I (Pv.nx (pure (.bl true) >>= vb) >>= _) _
    rw [M.pure_bind, vb_bl2, nx_pure, M.pure_bind, if_pos rfl]
    refine Ok.bind (Ok.nx (he x)) fun y hy => ?_
    rw [if_pos (Nat.lt_of_lt_of_le hacc (by rw [sizeLine_eq]; decide))]
    exact Ok.pure ⟨y, rfl, hy⟩
  · obtain ⟨zs, e, h1, h2⟩ := hys
    rw [List.nil_append] at e
    subst e
    rw [List.length_map, List.length_range] at h1
    exact Ok.pure ⟨_, rfl, by rw [h1]; exact hm, h2⟩
theorem range_Ok {c : Pv.Ctx} {ρ : Env1} {e : CE} {Pm : Nat → Prop} (h : Ok I (e c ρ) fun d => ∃ m : Nat, d = .int (m : Int) ∧ m ≤ 1000 ∧ Pm m) : Ok I ((iRange e) c ρ) fun xs => ∃ m, Pm m ∧ m ≤ 1000 ∧ xs = (List.range m).map fun (k : Nat) => D.int (k : Int) := by
  unfold iRange
  refine Ok.bind h fun d hd => ?_
  obtain ⟨m, rfl, h1, h2⟩ := hd
  show Ok I (if decide (-(2 ^ 62) ≤ (m : Int)) && decide ((m : Int) < 2 ^ 62) then pure ((List.range (m : Int).toNat).map fun (k : Nat) => D.int (k : Int)) else M.fail : M (List D)) _
  rw [if_pos (by simp; omega)]
  exact Ok.pure ⟨m, h2, h1, rfl⟩
theorem seq_Ok {a b : CS} {c : Pv.Ctx} {ρ : Env1} {R : Env1 → Prop} {Q : D → Prop} (h : Ok I (a c ρ) fun q => ∃ ρ', q = .nx ρ' ∧ R ρ') (k : ∀ ρ', R ρ' → Ok I (b c ρ' >>= rtD) Q) : Ok I ((sSeq a b) c ρ >>= rtD) Q := by
  have e : ((sSeq a b) c ρ >>= rtD) = (a c ρ >>= fun q => (match q with | .nx ρ' => b c ρ' | o => pure o) >>= rtD) := M.assoc _ _ _
  rw [e]
  refine Ok.bind h fun q hq => ?_
  obtain ⟨ρ', rfl, hr⟩ := hq
  exact k ρ' hr
theorem if_ret {t J : CE} {R : CS} {c : Pv.Ctx} {ρ : Env1} (h : t c ρ = pure (.bl true)) : ((sSeq (sIf t (sRet J) sPass) R) c ρ >>= rtD) = J c ρ := by
  funext s
  simp only [sSeq, sIf, h, M.pure_bind, vb_bl2, if_true, sRet, M.run_bind]
  cases J c ρ s <;> rfl
theorem if_skip {t : CE} {A R : CS} {c : Pv.Ctx} {ρ : Env1} (h : t c ρ = pure (.bl false)) : (sSeq (sIf t A sPass) R) c ρ = R c ρ := by
  simp only [sSeq, sIf, h, M.pure_bind, vb_bl2, Bool.false_eq_true, if_false, sPass]
theorem ret_run {J : CE} {c : Pv.Ctx} {ρ : Env1} : ((sRet J) c ρ >>= rtD) = J c ρ := by
  funext s
  simp only [sRet, M.run_bind]
  cases J c ρ s <;> rfl
theorem lists_ok {f : Nat → Nat → Option Bool} {l : List Nat} (h : l.length ≤ 1000) : vbi f .list [.str (S l)] = some (.lst (l.map fun x => D.str (S [x]))) := by
  show (if (S l).length ≤ sizeLine then some (D.lst ((S l).cps.toList.map fun c => .str ⟨#[c]⟩)) else none) = _
  rw [S_len, if_pos (sz1000 (by omega)), S_list]
  rfl
theorem strs_signs {zs : List D} {A : List Nat} (h : ∀ z ∈ zs, ∃ x ∈ A, z = D.str (S [x])) : ∃ l : List Nat, strs? zs = some (l.map fun x => S [x]) ∧ l.length = zs.length ∧ ∀ x ∈ l, x ∈ A := by
  induction zs with
  | nil => exact ⟨[], rfl, rfl, by simp⟩
  | cons z zs ih =>
    obtain ⟨x, hx, rfl⟩ := h z List.mem_cons_self
    obtain ⟨l, h1, h2, h3⟩ := ih fun z hz => h z (List.mem_cons_of_mem _ hz)
    refine ⟨x :: l, ?_, by simp [h2], fun y hy => ?_⟩
    · show (strs? zs).map (S [x] :: ·) = _
      rw [h1]
      rfl
    · rcases List.mem_cons.mp hy with rfl | hy
      · exact hx
      · exact h3 y hy
theorem sum_ones : ∀ l : List Nat, ((l.map fun x => S [x]).map (·.length)).sum = l.length
  | [] => rfl
  | x :: l => by
    have := sum_ones l
    simp only [List.map_cons, List.sum_cons, List.length_cons, S_len, List.length_nil] at this ⊢
    omega
theorem token_eq : m__law_token = (sSeq (sAsg 1 (eCall 5 (lCons (eVar 0) (lCons (eK (.int 3)) lNil)))) (sSeq (sIf (eCmp .eq (eVar 1) (eK (.int 0))) (sRet (eMe .join (eK (.str "")) (lCons (eComp [2] (.name 2) (iRange (eBin .add (eK (.int 1)) (eCall 5 (lCons (eVar 0) (lCons (eK (.int 8)) lNil))))) (eK (.bl true)) (eCall 6 (lCons (eVar 0) (lCons (eBi .list (lCons (eK (.str "abcdefghijklmnopqrstuvwxyz")) lNil)) lNil)))) lNil))) sPass) (sSeq (sIf (eCmp .eq (eVar 1) (eK (.int 1))) (sRet (eCall 6 (lCons (eVar 0) (lCons (eLst (lCons (eK (.str "0")) (lCons (eK (.str "999999999")) (lCons (eBi .str (lCons (eBin .add (eK (.int 1)) (eCall 5 (lCons (eVar 0) (lCons (eK (.int 999999999)) lNil)))) lNil)) (lCons (eBi .str (lCons (eBin .add (eK (.int 1)) (eCall 5 (lCons (eVar 0) (lCons (eK (.int 9)) lNil)))) lNil)) lNil))))) lNil)))) sPass) (sRet (eCall 6 (lCons (eVar 0) (lCons (eBi .list (lCons (eK (.str "(){}=,:;+-^/")) lNil)) lNil))))))) := rfl
theorem s_9 : ("999999999" : Str) = S (figs 999999999) := by decide +kernel
theorem s_0 : ("0" : Str) = S (figs 0) := by decide +kernel
theorem tk0 : Tk (figs 0) := .dg (figs_ne 0) (figs_dg 0) (by decide) (.inr (by decide))
/-- _law_token -/
theorem token_ok (hn : 63 < n) : Ok Gd ((run P n (k + 4)).1 12 fs [.draw]) fun d => ∃ w, d = .str (S w) ∧ Tk w := by
  rw [run_code (b := m__law_token) rfl rfl, outD_false, token_eq]
  have e2 : startE 3 [.draw] = [.pl .draw, .un, .un] := rfl
  rw [e2]
  generalize hcc : ctxOf P n (run P n (k + 3)) false fs = c
  have h5 : ∀ ρ, c.call 5 (c.now ρ) = (run P n (k + 3)).1 5 fs := fun ρ => by rw [← hcc]; rfl
  have h6 : ∀ ρ, c.call 6 (c.now ρ) = (run P n (k + 3)).1 6 fs := fun ρ => by rw [← hcc]; rfl
  have h6b : ∀ ρ, ({ c with fl := false, fs := [] } : Pv.Ctx).call 6 (({ c with fl := false, fs := [] } : Pv.Ctx).now ρ) = (run P n (k + 3)).1 6 [] := fun ρ => by rw [← hcc]; rfl
  have hw : Ok Gd ((sAsg 1 (eCall 5 (lCons (eVar 0) (lCons (eK (.int 3)) lNil)))) c [.pl .draw, .un, .un]) fun q => ∃ ρ', q = .nx ρ' ∧ ∃ r : Int, ρ' = [.pl .draw, .pl (.int r), .un] := by
    have e : (sAsg 1 (eCall 5 (lCons (eVar 0) (lCons (eK (.int 3)) lNil)))) c [.pl .draw, .un, .un] = ((run P n (k + 3)).1 5 fs [.draw, .int 3] >>= fun x => pure (.nx [.pl .draw, .pl x, .un])) := by
      simp only [sAsg, eCall, lCons, lNil, eVar, eK, List.getElem?_cons_zero, M.pure_bind, M.assoc, h5, List.set_cons_succ, List.set_cons_zero]
    rw [e]
    refine Ok.bind (eT hn (by decide) (by decide)) fun d hd => ?_
    obtain ⟨r, rfl, _, _⟩ := hd
    exact Ok.pure ⟨_, rfl, r, rfl⟩
  refine seq_Ok hw fun ρ' hq => ?_
  obtain ⟨r, rfl⟩ := hq
  have c0 : (eCmp .eq (eVar 1) (eK (.int 0))) c [.pl .draw, .pl (.int r), .un] = pure (.bl (r == 0)) := rfl
  have c1 : (eCmp .eq (eVar 1) (eK (.int 1))) c [.pl .draw, .pl (.int r), .un] = pure (.bl (r == 1)) := rfl
  -- 1 + a draw
  have plus : ∀ z : Int, 0 < z → z ≤ 10 ^ 12 → Ok Gd ((eBin .add (eK (.int 1)) (eCall 5 (lCons (eVar 0) (lCons (eK (.int z)) lNil)))) c [.pl .draw, .pl (.int r), .un]) fun d => ∃ m : Nat, d = .int (m : Int) ∧ 1 ≤ m ∧ (m : Int) ≤ z := fun z hz hz2 => by
    have e : (eBin .add (eK (.int 1)) (eCall 5 (lCons (eVar 0) (lCons (eK (.int z)) lNil)))) c [.pl .draw, .pl (.int r), .un] = ((run P n (k + 3)).1 5 fs [.draw, .int z] >>= fun y => M.opt (vbin .add (.int 1) y)) := by
      simp only [eBin, eCall, lCons, lNil, eVar, eK, List.getElem?_cons_zero, M.pure_bind, M.assoc, h5]
    rw [e]
    refine Ok.bind (eT hn hz ?_) fun d hd => ?_
    · have : z.natAbs.log2 < 64 := (Nat.log2_lt (by omega)).mpr (by omega)
      omega
    · obtain ⟨v, rfl, h1, h2⟩ := hd
      rw [add_ok, opt_pure]
      exact Ok.pure ⟨(1 + v).toNat, by congr 1; omega, by omega, by omega⟩
  by_cases r0 : r = 0
  · subst r0
    refine Ok.eq (if_ret c0) ?_
    have e : (eMe .join (eK (.str "")) (lCons (eComp [2] (.name 2) (iRange (eBin .add (eK (.int 1)) (eCall 5 (lCons (eVar 0) (lCons (eK (.int 8)) lNil))))) (eK (.bl true)) (eCall 6 (lCons (eVar 0) (lCons (eBi .list (lCons (eK (.str "abcdefghijklmnopqrstuvwxyz")) lNil)) lNil)))) lNil)) c [.pl .draw, .pl (.int 0), .un] =
        ((eComp [2] (.name 2) (iRange (eBin .add (eK (.int 1)) (eCall 5 (lCons (eVar 0) (lCons (eK (.int 8)) lNil))))) (eK (.bl true)) (eCall 6 (lCons (eVar 0) (lCons (eBi .list (lCons (eK (.str "abcdefghijklmnopqrstuvwxyz")) lNil)) lNil)))) c [.pl .draw, .pl (.int 0), .un] >>= fun y => M.opt (vme .join (.str (S [])) [y])) := by
      simp only [eMe, eK, M.pure_bind, isStrD, if_true, lCons, lNil, M.assoc, s_e]
    refine Ok.eq e ?_
    refine Ok.bind (comp_Ok (Pm := fun m => 1 ≤ m ∧ m ≤ 8) (R := fun d => ∃ x ∈ SM, d = .str (S [x])) (range_Ok (Ok.imp (plus 8 (by decide) (by decide)) fun d hd => ?_)) fun x => ?_) fun d hd => ?_
    · obtain ⟨m, rfl, h1, h2⟩ := hd
      exact ⟨m, rfl, by omega, h1, by omega⟩
    · have e : (eCall 6 (lCons (eVar 0) (lCons (eBi .list (lCons (eK (.str "abcdefghijklmnopqrstuvwxyz")) lNil)) lNil))) { c with fl := false, fs := [] } ((wipeE (([.pl .draw, .pl (.int 0), .un] : Env1).map cleanS) [2]).set 2 (.pl x)) = (run P n (k + 3)).1 6 [] [.draw, .lst (SM.map fun x => D.str (S [x]))] := by
        simp only [eCall, lCons, lNil, eVar, eBi, eK, List.map_cons, List.map_nil, cleanS, noLam, if_true, wipeE, List.set_cons_succ, List.set_cons_zero, List.getElem?_cons_zero, M.pure_bind, M.assoc, eSM, lists_ok (show SM.length ≤ 1000 by decide), opt_pure]
        exact congrFun (h6b _) _
      refine Ok.eq e ?_
      refine Ok.imp (eB hn (by decide) (by decide)) fun d hd => ?_
      obtain ⟨y, hy, rfl⟩ := List.mem_map.mp hd
      exact ⟨y, hy, rfl⟩
    · obtain ⟨zs, rfl, hl, hz⟩ := hd
      obtain ⟨l, h1, h2, h3⟩ := strs_signs hz
      have e3 : vme .join (.str (S [])) [.lst zs] = some (.str (S l)) := by
        show ((strs? zs).bind fun ys => if (ys.map (·.length)).sum + ys.length * (S []).length ≤ 16777216 then some (D.str (Txt.join (S []) ys)) else none) = _
        rw [h1]
        show (if ((l.map fun x => S [x]).map (·.length)).sum + (l.map fun x => S [x]).length * (S []).length ≤ 16777216 then some (D.str (Txt.join (S []) (l.map fun x => S [x]))) else none) = _
        rw [sum_ones, S_len, if_pos (by simp; omega), join_signs]
      rw [e3]
      refine Ok.pure ⟨l, rfl, .sm (fun z => ?_) h3 (by omega)⟩
      subst z
      simp at h2
      omega
  · have c0' : (eCmp .eq (eVar 1) (eK (.int 0))) c [.pl .draw, .pl (.int r), .un] = pure (.bl false) := by
      rw [c0, show (r == 0) = false by simpa using r0]
    rw [if_skip c0']
    by_cases r1 : r = 1
    · subst r1
      refine Ok.eq (if_ret c1) ?_
      have e : (eCall 6 (lCons (eVar 0) (lCons (eLst (lCons (eK (.str "0")) (lCons (eK (.str "999999999")) (lCons (eBi .str (lCons (eBin .add (eK (.int 1)) (eCall 5 (lCons (eVar 0) (lCons (eK (.int 999999999)) lNil)))) lNil)) (lCons (eBi .str (lCons (eBin .add (eK (.int 1)) (eCall 5 (lCons (eVar 0) (lCons (eK (.int 9)) lNil)))) lNil)) lNil))))) lNil))) c [.pl .draw, .pl (.int 1), .un] =
          ((eBin .add (eK (.int 1)) (eCall 5 (lCons (eVar 0) (lCons (eK (.int 999999999)) lNil)))) c [.pl .draw, .pl (.int 1), .un] >>= fun a => M.opt (vbi c.sub .str [a]) >>= fun a' => (eBin .add (eK (.int 1)) (eCall 5 (lCons (eVar 0) (lCons (eK (.int 9)) lNil)))) c [.pl .draw, .pl (.int 1), .un] >>= fun b => M.opt (vbi c.sub .str [b]) >>= fun b' =>
            (run P n (k + 3)).1 6 fs [.draw, .lst [.str (S (figs 0)), .str (S (figs 999999999)), a', b']]) := by
        simp only [eCall, lCons, lNil, eLst, eBi, M.assoc, M.pure_bind, h6, s_0, s_9]
        simp only [eVar, eK, List.getElem?_cons_zero, M.pure_bind, List.length_cons, List.length_nil, Nat.reduceAdd, Nat.reduceLeDiff, if_true]
      refine Ok.eq e ?_
      refine Ok.bind (plus 999999999 (by decide) (by decide)) fun a ha => ?_
      obtain ⟨m1, rfl, a1, a2⟩ := ha
      rw [str_ok (by omega), opt_pure, M.pure_bind]
      refine Ok.bind (plus 9 (by decide) (by decide)) fun b hb => ?_
      obtain ⟨m2, rfl, b1, b2⟩ := hb
      rw [str_ok (by omega), opt_pure, M.pure_bind]
      refine Ok.imp (eB hn (by simp) (by simp)) fun d hd => ?_
      simp only [List.mem_cons, List.not_mem_nil, or_false] at hd
      rcases hd with rfl | rfl | rfl | rfl
      · exact ⟨_, rfl, tk0⟩
      · exact ⟨_, rfl, figs_tk (by decide) (by decide)⟩
      · exact ⟨_, rfl, figs_tk a1 (by omega)⟩
      · exact ⟨_, rfl, figs_tk b1 (by omega)⟩
    · have c1' : (eCmp .eq (eVar 1) (eK (.int 1))) c [.pl .draw, .pl (.int r), .un] = pure (.bl false) := by
        rw [c1, show (r == 1) = false by simpa using r1]
      rw [if_skip c1']
      refine Ok.eq ret_run ?_
      have e : (eCall 6 (lCons (eVar 0) (lCons (eBi .list (lCons (eK (.str "(){}=,:;+-^/")) lNil)) lNil))) c [.pl .draw, .pl (.int r), .un] = (run P n (k + 3)).1 6 fs [.draw, .lst (SG.map fun x => D.str (S [x]))] := by
        simp only [eCall, lCons, lNil, eVar, eBi, eK, List.getElem?_cons_zero, M.pure_bind, M.assoc, eSG, lists_ok (show SG.length ≤ 1000 by decide), opt_pure, h6]
      refine Ok.eq e ?_
      refine Ok.imp (eB hn (by decide) (by decide)) fun d hd => ?_
      obtain ⟨y, hy, rfl⟩ := List.mem_map.mp hd
      exact ⟨_, rfl, .sg hy⟩
end
end K11
end

section
set_option Elab.async false
set_option linter.all false
set_option maxRecDepth 100000
set_option maxHeartbeats 4000000
namespace K11
open PySem Pv
/-! the repr of what is compared: short, and plain signs -/
def Pn (s : Str) (m : Nat) : Prop := (∀ x ∈ s.cps.toList, x < 128) ∧ s.length ≤ m
theorem Pn.app {a b : Str} {m1 m2 : Nat} (h : Pn a m1) (h2 : Pn b m2) : Pn (a ++ b) (m1 + m2) := by
  have e : (a ++ b).cps.toList = a.cps.toList ++ b.cps.toList := by
    show (Str.append a b).cps.toList = _
    simp [Str.append]
  refine ⟨fun x hx => ?_, ?_⟩
  · rw [e] at hx
    rcases List.mem_append.mp hx with hx | hx
    · exact h.1 x hx
    · exact h2.1 x hx
  · have l : ∀ s : Str, s.length = s.cps.toList.length := fun s => by simp [Str.length]
    rw [l, e, List.length_append, ← l, ← l]
    have := h.2
    have := h2.2
    omega
theorem Pn.mono {a : Str} {m1 m2 : Nat} (h : Pn a m1) (hm : m1 ≤ m2) : Pn a m2 := ⟨h.1, Nat.le_trans h.2 hm⟩
theorem pn_S {l : List Nat} (h : ∀ x ∈ l, x < 128) : Pn (S l) l.length := ⟨by rw [S_list]; exact h, by rw [S_len]; exact Nat.le_refl _⟩
theorem pn_join {sep : Str} {ms m : Nat} (hs : Pn sep ms) : ∀ ts : List Str, (∀ t ∈ ts, Pn t m) → Pn (Str.join sep ts) (ts.length * (m + ms))
  | [], _ => ⟨by simp [Str.join, Str.empty], by simp [Str.join, Str.empty, Str.length]⟩
  | [x], h => (h x List.mem_cons_self).mono (by simp)
  | x :: y :: r, h => by
    have ih := pn_join hs (y :: r) fun t ht => h t (List.mem_cons_of_mem _ ht)
    refine (((h x List.mem_cons_self).app hs).app ih).mono ?_
    simp only [List.length_cons, Nat.add_mul]
    omega
theorem fold_app (f : Nat → List Nat) : ∀ (l : List Nat) (acc : Array Nat), (l.foldl (fun out c => out ++ (f c).toArray) acc).toList = acc.toList ++ l.flatMap f
  | [], acc => by simp
  | c :: l, acc => by
    rw [List.foldl_cons, fold_app f l]
    simp
theorem rc34 : ∀ c < 128, (Builtin.Str.reprChar 34 c).length ≤ 4 ∧ ∀ y ∈ Builtin.Str.reprChar 34 c, y < 128 := by decide +kernel
theorem rc39 : ∀ c < 128, (Builtin.Str.reprChar 39 c).length ≤ 4 ∧ ∀ y ∈ Builtin.Str.reprChar 39 c, y < 128 := by decide +kernel
theorem fm_len {f : Nat → List Nat} : ∀ l : List Nat, (∀ c ∈ l, (f c).length ≤ 4) → (l.flatMap f).length ≤ 4 * l.length
  | [], _ => by simp
  | c :: l, h => by
    have := fm_len l fun x hx => h x (List.mem_cons_of_mem _ hx)
    have := h c List.mem_cons_self
    simp only [List.flatMap_cons, List.length_append, List.length_cons]
    omega
theorem pn_repr {l : List Nat} (h : ∀ x ∈ l, x < 128) : Pn (reprText (S l)) (4 * l.length + 2) := by
  have hq : reprQuote (S l) = 34 ∨ reprQuote (S l) = 39 := by
    unfold reprQuote
    split
    · exact .inl rfl
    · exact .inr rfl
  have rc : ∀ c < 128, (Builtin.Str.reprChar (reprQuote (S l)) c).length ≤ 4 ∧ ∀ y ∈ Builtin.Str.reprChar (reprQuote (S l)) c, y < 128 := by
    rcases hq with e | e
    · rw [e]
      exact rc34
    · rw [e]
      exact rc39
  have q128 : reprQuote (S l) < 128 := by omega
  have e : (reprText (S l)).cps.toList = reprQuote (S l) :: (l.flatMap (Builtin.Str.reprChar (reprQuote (S l))) ++ [reprQuote (S l)]) := by
    unfold reprText
    simp only [Array.toList_push]
    rw [← Array.foldl_toList, S_list, fold_app]
    simp
  refine ⟨fun x hx => ?_, ?_⟩
  · rw [e] at hx
    rcases List.mem_cons.mp hx with rfl | hx
    · exact q128
    · rcases List.mem_append.mp hx with hx | hx
      · obtain ⟨c, hc, hy⟩ := List.mem_flatMap.mp hx
        exact (rc c (h c hc)).2 x hy
      · simp at hx
        rw [hx]
        exact q128
  · have ll : (reprText (S l)).length = (reprText (S l)).cps.toList.length := by simp [Str.length]
    rw [ll, e]
    have := fm_len l fun c hc => (rc c (h c hc)).1
    simp only [List.length_cons, List.length_append, List.length_nil]
    omega
theorem pn_int {v : Nat} (h : v < 10 ^ 20) : Pn (Str.ofString (toString (v : Int))) 20 := by
  rw [figs_str]
  exact (pn_S fun x hx => db2 x (figs_dg v x hx)).mono ((figs_len (by decide)).mpr h)
theorem p1 : Pn ("(" : Str) 1 := ⟨by decide +kernel, by decide +kernel⟩
theorem p2 : Pn (")" : Str) 2 := ⟨by decide +kernel, by decide +kernel⟩
theorem p3 : Pn (",)" : Str) 2 := ⟨by decide +kernel, by decide +kernel⟩
theorem p4 : Pn (", " : Str) 2 := ⟨by decide +kernel, by decide +kernel⟩
theorem pn_tuple {ts : List Str} {m : Nat} (h : ∀ t ∈ ts, Pn t m) : Pn (tupleText ts) (3 + ts.length * (m + 2)) := by
  unfold tupleText
  have q := (p1.app (pn_join p4 ts h))
  by_cases hl : (ts.length == 1) = true
  · rw [if_pos hl]
    exact (q.app p3).mono (by omega)
  · rw [if_neg hl]
    exact (q.app p2).mono (by omega)
theorem strOk_of {s : Str} {m : Nat} (h : Pn s m) : PyData.strOk s = true := by
  unfold PyData.strOk
  rw [Array.all_eq_true_iff_forall_mem]
  intro x hx
  have := h.1 x (by simpa using hx)
  simp
  omega
def encP (p : List Nat × Nat) : PyData := .tuple [.str (S p.1), .int (p.2 : Int)]
theorem py_encs : ∀ out : List (List Nat × Nat), D.pys (out.map enc) = some (out.map encP)
  | [] => rfl
  | p :: out => by
    show ((enc p).py).bind (fun a => (D.pys (out.map enc)).map (a :: ·)) = _
    rw [py_encs out]
    rfl
theorem lay_encs : ∀ out : List (List Nat × Nat), (∀ p ∈ out, ∀ x ∈ p.1, x < 128) → PyData.canLayAll0 (out.map encP) = true
  | [], _ => rfl
  | p :: out, h => by
    show (PyData.canLay0 (encP p) && PyData.canLayAll0 (out.map encP)) = true
    rw [lay_encs out fun q hq => h q (List.mem_cons_of_mem _ hq), Bool.and_true]
    show (PyData.strOk (S p.1) && (true && true)) = true
    rw [strOk_of (pn_S (h p List.mem_cons_self))]
    rfl
theorem depth_encs : ∀ out : List (List Nat × Nat), PyData.depthAll (out.map encP) ≤ 1
  | [] => by decide
  | p :: out => by
    show max (PyData.depth (encP p)) (PyData.depthAll (out.map encP)) ≤ 1
    have := depth_encs out
    have e : PyData.depth (encP p) = 1 := rfl
    rw [e]
    omega
theorem show_encs : ∀ out : List (List Nat × Nat), (∀ p ∈ out, p.2 < 10 ^ 20) → PyData.showableAll (out.map encP) = true
  | [], _ => rfl
  | p :: out, h => by
    show (PyData.showable (encP p) && PyData.showableAll (out.map encP)) = true
    rw [show_encs out fun q hq => h q (List.mem_cons_of_mem _ hq), Bool.and_true]
    show (true && (decide (((p.2 : Int)).natAbs.log2 < 1920) && true)) = true
    have e : ((p.2 : Int)).natAbs = p.2 := rfl
    have lg : p.2.log2 < 1920 := by
      by_cases h0 : p.2 = 0
      · rw [h0]
        decide
      · have h64 : p.2.log2 < 70 := (Nat.log2_lt h0).mpr (Nat.lt_of_lt_of_le (h p List.mem_cons_self) (by decide))
        omega
    rw [e, decide_eq_true lg]
    rfl
theorem shown_encs : ∀ out : List (List Nat × Nat), PyData.shownAll (out.map encP) = out.map fun p => tupleText [reprText (S p.1), Str.ofString (toString (p.2 : Int))]
  | [] => rfl
  | p :: out => by
    show (encP p).shown :: PyData.shownAll (out.map encP) = _
    rw [shown_encs out]
    rfl
/-- tokens with their places can be compared -/
theorem rp_encs {out : List (List Nat × Nat)} (hl : out.length ≤ 100) (h : ∀ p ∈ out, (∀ x ∈ p.1, x < 128) ∧ p.1.length ≤ 100 ∧ p.2 < 10 ^ 20) : Rp (.tup (out.map enc)) := by
  have hd := depth_encs out
  have pn : Pn (PyData.shown (.tuple (out.map encP))) 500000 := by
    show Pn (tupleText (PyData.shownAll (out.map encP))) _
    rw [shown_encs]
    refine (pn_tuple (m := 3 + 2 * (402 + 2)) fun t ht => ?_).mono ?_
    · obtain ⟨p, hp, rfl⟩ := List.mem_map.mp ht
      obtain ⟨h1, h2, h3⟩ := h p hp
      refine pn_tuple (m := 402) fun t ht => ?_
      simp only [List.mem_cons, List.not_mem_nil, or_false] at ht
      rcases ht with rfl | rfl
      · exact (pn_repr h1).mono (by omega)
      · exact (pn_int h3).mono (by omega)
    · rw [List.length_map]
      have : out.length * (3 + 2 * (402 + 2) + 2) ≤ 100 * (3 + 2 * (402 + 2) + 2) := Nat.mul_le_mul_right _ hl
      omega
  refine ⟨.tuple (out.map encP), ?_, ?_, ?_, Nat.le_trans pn.2 (by rw [sizeLine_eq]; decide), strOk_of pn⟩
  · unfold shapedD
    have e : D.py (.tup (out.map enc)) = some (.tuple (out.map encP)) := by
      show (D.pys (out.map enc)).map PyData.tuple = _
      rw [py_encs]
      rfl
    rw [e, Option.bind_some, if_pos]
    show (PyData.canLayAll0 (out.map encP) && decide (PyData.depthAll (out.map encP) + 1 ≤ 64)) = true
    rw [lay_encs out fun p hp => (h p hp).1, decide_eq_true (by omega)]
    rfl
  · exact show_encs out fun p hp => (h p hp).2.2
  · show PyData.depthAll (out.map encP) + 1 ≤ 64
    omega
/-- a number can be compared -/
theorem rp_int {v : Nat} (h : v < 10 ^ 20) : Rp (.int (v : Int)) := by
  have pn := pn_int h
  have e : ((v : Int)).natAbs = v := rfl
  have lg : v.log2 < 1920 := by
    by_cases h0 : v = 0
    · rw [h0]
      decide
    · have h64 : v.log2 < 70 := (Nat.log2_lt h0).mpr (Nat.lt_of_lt_of_le h (by decide))
      omega
  refine ⟨.int (v : Int), rfl, ?_, Nat.zero_le _, Nat.le_trans pn.2 (by rw [sizeLine_eq]; decide), strOk_of pn⟩
  show decide (((v : Int)).natAbs.log2 < 1920) = true
  rw [e, decide_eq_true lg]
end K11
end

section
set_option Elab.async false
set_option linter.all false
set_option maxRecDepth 100000
set_option maxHeartbeats 4000000
namespace K11
open PySem Pv
section
variable {n k : Nat} {fs : List Env1}
/-- _law_is_bad_text -/
theorem bad_ok {fid b e : Nat} (he : e < 10 ^ 20) (hx : Ex Gd ((run P n (k + 1)).2 fid b fs) 1 (some (.int (e : Int)))) : Ok Gd ((run P n (k + 3)).1 9 fs [.lam fid b, .int (e : Int)]) fun d => d = .bl true := by
  rw [run_code (b := m__law_is_bad_text) rfl rfl, outD_false]
  have e2 : startE 3 [.lam fid b, .int (e : Int)] = [.pl (.lam fid b), .pl (.int (e : Int)), .un] := rfl
  rw [e2]
  generalize hcc : ctxOf P n (run P n (k + 2)) false fs = c
  have h7 : ∀ ρ, c.call 7 (c.now ρ) = (run P n (k + 2)).1 7 fs := fun ρ => by rw [← hcc]; rfl
  have h8 : ∀ ρ, c.call 8 (c.now ρ) = (run P n (k + 2)).1 8 fs := fun ρ => by rw [← hcc]; rfl
  have hs : c.sub = P.sub := by rw [← hcc]; rfl
  have st : Ok Gd ((sAsg 2 (eCall 7 (lCons (eVar 0) lNil))) c [.pl (.lam fid b), .pl (.int (e : Int)), .un]) fun q => ∃ ρ', q = .nx ρ' ∧ ρ' = [.pl (.lam fid b), .pl (.int (e : Int)), .pl (.err 1 (some (.int (e : Int))))] := by
    have e3 : (sAsg 2 (eCall 7 (lCons (eVar 0) lNil))) c [.pl (.lam fid b), .pl (.int (e : Int)), .un] = ((run P n (k + 2)).1 7 fs [.lam fid b] >>= fun x => pure (.nx [.pl (.lam fid b), .pl (.int (e : Int)), .pl x])) := by
      simp only [sAsg, eCall, lCons, lNil, eVar, List.getElem?_cons_zero, M.pure_bind, M.assoc, h7, List.set_cons_succ, List.set_cons_zero]
    rw [e3]
    refine Ok.bind (caught_ok (ic := 7) (c := 0) (q := 1) rfl rfl hx) fun d hd => ?_
    subst hd
    exact Ok.pure ⟨_, rfl, rfl⟩
  show Ok Gd ((sSeq _ _) c _ >>= rtD) _
  refine seq_Ok st fun ρ' hq => ?_
  subst hq
  refine Ok.eq ret_run ?_
  have sm := same_run (P := P) (n := n) (isame := 8) rfl (k := k + 1) (fs := fs) (rp_int he)
  have e4 : vbi c.sub .isi [.err 1 (some (.int (e : Int))), .cls 1] = some (.bl true) := by
    rw [hs]
    rfl
  refine Ok.eq (m' := pure (.bl true)) ?_ (Ok.pure rfl)
  have ec : ([1] : List Nat).contains 1 = true := rfl
  simp only [eAnd, eBi, lCons, lNil, eVar, eK, List.getElem?_cons_succ, List.getElem?_cons_zero, M.pure_bind, M.assoc, e4, opt_pure, vb_bl2, if_true, eCall, eAttr, ec, h8]
  exact sm
theorem outD_Ok {I : DS → Prop} {fl : Bool} {m : Nat} {x : M D} {Q : D → Prop} (h : Ok I x Q) (hq : ∀ a, Q a → noLam m a = true) : Ok I (outD fl m x) Q := fun s hs => by
  obtain ⟨a, s1, e, h1, h2⟩ := h s hs
  refine ⟨a, s1, ?_, h1, h2⟩
  unfold outD
  rw [e]
  cases fl with
  | false => rfl
  | true =>
    show (if noLam m a = true then _ else _) = _
    rw [if_pos (hq a h2)]
/-- a lambda that reads a text, the text bad -/
theorem lam_bad {fid b : Nat} {caps : List Nat} {e : CE} {ρ : Env1} {x : Option D} (hl : P.lams b = some (caps, e)) (hf : fs[fid]? = some ρ) (h : e (ctxOf P n (run P n k) false fs) (caps.map (capS ρ)) = M.raise 1 x) : Ex Gd ((run P n (k + 1)).2 fid b fs) 1 x := by
  rw [run_lam hl hf, h]
  exact Ex.raise
theorem rd_sp : ∀ (m i : Nat), Rd i (List.replicate m 32) []
  | 0, i => .nil i
  | m + 1, i => .ws (by simp) (rd_sp m (i + 1))
theorem nj_nil : Nj [] := fun x r' e => by cases e
theorem nj_cons {x : Nat} {r : List Nat} (h : x ∉ SM ∧ x ∉ DG) : Nj (x :: r) := fun y r' e => by
  cases e
  exact h
theorem cut_pre {ws : List (List Nat)} {r : Int} (h0 : 0 ≤ r) (h : r ≤ ws.length) : vslice (.lst (toksD ws)) none (some r) = some (.lst (toksD (ws.take r.toNat))) := by
  show some (D.lst (cutD (toksD ws) none (some r))) = _
  unfold cutD
  have e : r = ((r.toNat : Nat) : Int) := by omega
  rw [HT.sIx_none, e, HT.sIx_nat]
  simp [toksD, List.map_take]
  omega
theorem cut_suf {ws : List (List Nat)} {r : Int} (h0 : 0 ≤ r) (h : r ≤ ws.length) : vslice (.lst (toksD ws)) (some r) none = some (.lst (toksD (ws.drop r.toNat))) := by
  obtain ⟨m, rfl⟩ : ∃ m : Nat, r = m := ⟨r.toNat, by omega⟩
  show some (D.lst (cutD (toksD ws) (some (m : Int)) none)) = _
  unfold cutD
  rw [HT.sIx_none, HT.sIx_nat]
  have e2 : min m (toksD ws).length = m := by simp [toksD]; omega
  rw [e2, Int.toNat_natCast]
  simp only [toksD, List.map_drop]
  rw [List.take_of_length_le (by simp)]
def odds : List Nat := [65, 90, 95, 42, 46, 33, 126, 38, 60, 91, 39, 35, 36, 64]
theorem odd_ok : ∀ x ∈ odds, x ∉ [32, 10] ∧ x ∉ SM ∧ x ∉ DG ∧ x ∉ SG ∧ x < 128 := by decide
theorem tl_odd {x : Nat} {r : List Nat} (h : x ∉ SM ∧ x ∉ DG ∧ x ∉ SG) : tl (x :: r) = 0 := by
  simp only [tl, if_neg h.1, if_neg h.2.1, if_neg h.2.2]
/-- a row of figures that is no token -/
def BadRow (w : List Nat) : Prop := w ≠ [] ∧ (∀ x ∈ w, x ∈ DG) ∧ w.length ≤ 20 ∧ (9 < w.length ∨ (w.head? = some 48 ∧ w.length ≠ 1))
theorem tl_row {w r : List Nat} (h : BadRow w) : tl (w ++ 32 :: r) = 0 := by
  obtain ⟨h0, h1, _, h2⟩ := h
  cases w with
  | nil => exact absurd rfl h0
  | cons y w =>
    have hy := h1 y List.mem_cons_self
    have e := tw_app (p := fun x => decide (x ∈ DG)) (w := y :: w) (r := 32 :: r) (fun x hx => by simpa using h1 x hx) (fun x r' hr => by cases hr; decide)
    show tl (y :: (w ++ 32 :: r)) = _
    simp only [tl, if_neg (dj1 y hy), if_pos hy]
    rw [show y :: (w ++ 32 :: r) = (y :: w) ++ 32 :: r from rfl, e, if_neg]
    rintro ⟨a, b⟩
    rcases h2 with h2 | ⟨h2, h3⟩
    · omega
    · rcases b with b | b
      · simp at h2
        exact b h2
      · exact h3 b
theorem s_00 : ("00" : Str) = S [48, 48] := by decide +kernel
theorem s_01 : ("01" : Str) = S [48, 49] := by decide +kernel
theorem s_13 : ("1234567890123" : Str) = S [49, 50, 51, 52, 53, 54, 55, 56, 57, 48, 49, 50, 51] := by decide +kernel
theorem s_pl : ("+" : Str) = S [43] := by decide +kernel
theorem s_co : (":" : Str) = S [58] := by decide +kernel
end
end K11
end

section
set_option Elab.async false
set_option linter.all false
set_option maxRecDepth 100000
set_option maxHeartbeats 4000000
namespace K11
open PySem Pv
theorem t_65 : ("A" : Str) = S [65] := by decide +kernel
theorem t_90 : ("Z" : Str) = S [90] := by decide +kernel
theorem t_95 : ("_" : Str) = S [95] := by decide +kernel
theorem t_42 : ("*" : Str) = S [42] := by decide +kernel
theorem t_46 : ("." : Str) = S [46] := by decide +kernel
theorem t_33 : ("!" : Str) = S [33] := by decide +kernel
theorem t_126 : ("~" : Str) = S [126] := by decide +kernel
theorem t_38 : ("&" : Str) = S [38] := by decide +kernel
theorem t_60 : ("<" : Str) = S [60] := by decide +kernel
theorem t_91 : ("[" : Str) = S [91] := by decide +kernel
theorem t_39 : ("'" : Str) = S [39] := by decide +kernel
theorem t_35 : ("#" : Str) = S [35] := by decide +kernel
theorem t_36 : ("$" : Str) = S [36] := by decide +kernel
theorem t_64 : ("@" : Str) = S [64] := by decide +kernel
section
variable {I : DS → Prop} {n k : Nat} {fs : List Env1}
theorem asg_Ok {i : Nat} {e : CE} {c : Pv.Ctx} {ρ : Env1} {Q : D → Prop} (h : Ok I (e c ρ) Q) : Ok I ((sAsg i e) c ρ) fun q => ∃ ρ', q = .nx ρ' ∧ ∃ x, ρ' = ρ.set i (.pl x) ∧ Q x := by
  unfold sAsg
  refine Ok.bind h fun x hx => ?_
  exact Ok.pure ⟨_, rfl, x, rfl, hx⟩
theorem if_Ok {t A : CE} {R : CS} {c : Pv.Ctx} {ρ : Env1} {Q : D → Prop} (h : Ok I (t c ρ) fun d => d = .bl false) (k : Ok I (R c ρ >>= rtD) Q) : Ok I ((sSeq (sIf t (sRet A) sPass) R) c ρ >>= rtD) Q := by
  refine seq_Ok (R := fun ρ' => ρ' = ρ) ?_ fun ρ' e => by subst e; exact k
  unfold sIf
  refine Ok.bind h fun d hd => ?_
  subst hd
  rw [vb_bl2, M.pure_bind, if_neg (by simp)]
  exact Ok.pure ⟨ρ, rfl, rfl⟩
theorem not_Ok {t : CE} {c : Pv.Ctx} {ρ : Env1} {b : Bool} (h : Ok I (t c ρ) fun d => d = .bl b) : Ok I ((eNot t) c ρ) fun d => d = .bl (!b) := by
  unfold eNot
  refine Ok.bind h fun d hd => ?_
  subst hd
  rw [vb_bl2, M.pure_bind]
  exact Ok.pure rfl
theorem ix_take {ws : List (List Nat)} (hw : ∀ w ∈ ws, Tk w) (m : Nat) : (∀ w ∈ ws.take m, Tk w) ∧ (∀ w ∈ ws.drop m, Tk w) := ⟨fun w h => hw w (List.mem_of_mem_take h), fun w h => hw w (List.mem_of_mem_drop h)⟩
def rowsOk (w : List Nat) : Prop := BadRow w
theorem r_00 : BadRow [48, 48] := ⟨by decide, by decide, by decide, .inr (by decide)⟩
theorem r_01 : BadRow [48, 49] := ⟨by decide, by decide, by decide, .inr (by decide)⟩
theorem r_13 : BadRow [49, 50, 51, 52, 53, 54, 55, 56, 57, 48, 49, 50, 51] := ⟨by decide, by decide, by decide, .inl (by decide)⟩
theorem r_0v {v : Nat} (h : v < 10 ^ 8) : BadRow ([48] ++ figs v) := by
  refine ⟨by simp, fun x hx => ?_, ?_, .inr ⟨by simp, ?_⟩⟩
  · rcases List.mem_append.mp hx with hx | hx
    · simp at hx
      subst hx
      decide
    · exact figs_dg v x hx
  · have := (figs_len (v := v) (k := 8) (by decide)).mpr h
    simp
    omega
  · have := List.length_pos_iff.mpr (figs_ne v)
    simp
    exact figs_ne v
theorem r_9v {v : Nat} (h1 : 10 ^ 9 ≤ v) (h : v < 10 ^ 10) : BadRow (figs v) := by
  refine ⟨figs_ne v, figs_dg v, ?_, .inl ?_⟩
  · have := (figs_len (v := v) (k := 10) (by decide)).mpr h
    omega
  · exact Nat.lt_of_not_le fun z => absurd ((figs_len (v := v) (k := 9) (by decide)).mp z) (by omega)
theorem rde_odd {T B : List Nat} {x : Nat} {ws : List (List Nat)} {ps : List Nat} (h : SpF T ws ps) (hx : x ∈ odds) : RdE 0 (T ++ [x] ++ B) T.length := by
  obtain ⟨a, b, d, e, _⟩ := odd_ok x hx
  rw [List.append_assoc]
  exact h.rdE _ _ (nj_cons ⟨b, d⟩) (.bad a (tl_odd ⟨b, d, e⟩))
theorem sep_ok : ∀ s ∈ ([32, 10, 43, 58] : List Nat), s ∉ SM ∧ s ∉ DG ∧ s < 128 ∧ (s ∈ [32, 10] ∨ s ∈ SG) := by decide
theorem rde_row {T B w : List Nat} {s : Nat} {ws : List (List Nat)} {ps : List Nat} (h : SpF T ws ps) (hs : s ∈ ([32, 10, 43, 58] : List Nat)) (hw : BadRow w) : RdE 0 (T ++ [s] ++ w ++ [32] ++ B) (T ++ [s]).length := by
  obtain ⟨a, b, _, d⟩ := sep_ok s hs
  have e : T ++ [s] ++ w ++ [32] ++ B = T ++ (s :: (w ++ 32 :: B)) := by simp
  rw [e]
  have bad : ∀ i, RdE i (w ++ 32 :: B) i := fun i => by
    have t0 := tl_row (r := B) hw
    cases w with
    | nil => exact absurd rfl hw.1
    | cons y w => exact .bad (dw2 y (hw.2.1 y List.mem_cons_self)) t0
  refine h.rdE _ _ (nj_cons ⟨a, b⟩) ?_
  rw [show (T ++ [s]).length = T.length + 1 by simp]
  rcases d with d | d
  · exact .ws d (bad _)
  · have q := al_sg d
    exact RdE.tk (w := [s]) (.sg d) ⟨fun z => (by rw [q.1] at z; cases z), fun z => (by rw [q.2] at z; cases z)⟩ (bad _)
theorem rdSz {T B : List Nat} {ws ws2 : List (List Nat)} {ps ps2 : List Nat} (h : SpF T ws ps) (h2 : SpF B ws2 ps2) (hl : ws.length ≤ 20) (hl2 : ws2.length ≤ 20) : T.length ≤ 224 ∧ B.length ≤ 224 := ⟨by have := h.sz; omega, by have := h2.sz; omega⟩
theorem at_end (fs : List Env1) (ρ : Env1) : (fs ++ [ρ])[fs.length]? = some ρ := by simp
/-- a call of a def -/
theorem call1 {c : Pv.Ctx} {ρ : Env1} {f j m : Nat} {fs' : List Env1} (hcall : c.call = (run P n m).1) (hnow : c.now ρ = fs') {es : CL} {xs : List D} (he : es c ρ = pure xs) : (eCall f es) c ρ = (run P n m).1 f fs' xs := by
  unfold eCall
  rw [he, M.pure_bind, hcall, hnow]
end
section
variable {n k : Nat} {fs : List Env1}
theorem wrong_eq : m__law_wrong_right = (sSeq (sAsg 2 (eCall 5 (lCons (eVar 0) (lCons (eBin .add (eBi .len (lCons (eVar 1) lNil)) (eK (.int 1))) lNil)))) (sSeq (sUnpack [4, 3] (eCall 11 (lCons (eVar 0) (lCons (eSlice (eVar 1) oNone (oSome (eVar 2))) lNil)))) (sSeq (sAsg 5 (eIx (eCall 11 (lCons (eVar 0) (lCons (eSlice (eVar 1) (oSome (eVar 2)) oNone) lNil))) (eK (.int 0)))) (sSeq (sAsg 6 (eCall 6 (lCons (eVar 0) (lCons (eLst (lCons (eK (.str "A")) (lCons (eK (.str "Z")) (lCons (eK (.str "_")) (lCons (eK (.str "*")) (lCons (eK (.str ".")) (lCons (eK (.str "!")) (lCons (eK (.str "~")) (lCons (eK (.str "&")) (lCons (eK (.str "<")) (lCons (eK (.str "[")) (lCons (eK (.str "'")) (lCons (eK (.str "#")) (lCons (eK (.str "$")) (lCons (eK (.str "@")) lNil))))))))))))))) lNil)))) (sSeq (sIf (eNot (eCall 9 (lCons (eLam 0) (lCons (eBi .len (lCons (eVar 4) lNil)) lNil)))) (sRet (eK (.bl false))) sPass) (sSeq (sAsg 4 (eBin .add (eVar 4) (eCall 6 (lCons (eVar 0) (lCons (eLst (lCons (eK (.str " ")) (lCons (eK (.str "\n")) (lCons (eK (.str "+")) (lCons (eK (.str ":")) lNil))))) lNil))))) (sSeq (sAsg 7 (eCall 6 (lCons (eVar 0) (lCons (eLst (lCons (eK (.str "00")) (lCons (eK (.str "01")) (lCons (eBin .add (eK (.str "0")) (eBi .str (lCons (eCall 5 (lCons (eVar 0) (lCons (eBin .pow (eK (.int 10)) (eK (.int 8))) lNil))) lNil))) (lCons (eBi .str (lCons (eBin .add (eBin .pow (eK (.int 10)) (eK (.int 9))) (eCall 5 (lCons (eVar 0) (lCons (eBin .mul (eK (.int 9)) (eBin .pow (eK (.int 10)) (eK (.int 9)))) lNil)))) lNil)) (lCons (eK (.str "1234567890123")) lNil)))))) lNil)))) (sRet (eCall 9 (lCons (eLam 1) (lCons (eBi .len (lCons (eVar 4) lNil)) lNil))))))))))) := rfl
theorem p108 : vbin .pow (.int 10) (.int 8) = some (.int 100000000) := by
  rfl
theorem p109 : vbin .pow (.int 10) (.int 9) = some (.int 1000000000) := by
  rfl
theorem m99 : vbin .mul (.int 9) (.int 1000000000) = some (.int 9000000000) := by
  rfl
/-- _law_wrong_right -/
theorem wrong_right_ok (hn : 4000 < n) {ws : List (List Nat)} (hw : ∀ w ∈ ws, Tk w) (hl : ws.length ≤ 20) : Ok Gd ((run P n (k + 7)).1 13 fs [.draw, .lst (toksD ws)]) fun d => d = .bl true := by
  have hn6 : 63 < n := by omega
  rw [run_code (b := m__law_wrong_right) rfl rfl, wrong_eq]
  refine outD_Ok ?_ (fun a ha => by rw [ha]; rfl)
  have e2 : startE 8 [.draw, .lst (toksD ws)] = [.pl .draw, .pl (.lst (toksD ws)), .un, .un, .un, .un, .un, .un] := rfl
  rw [e2]
  generalize hcc : ctxOf P n (run P n (k + 6)) true fs = c
  have hcall : c.call = (run P n (k + 6)).1 := by rw [← hcc]; rfl
  have hnow : ∀ ρ, c.now ρ = fs ++ [ρ] := fun ρ => by rw [← hcc]; rfl
  have hlam : ∀ b ρ, (eLam b) c ρ = pure (.lam fs.length b) := fun b ρ => by rw [← hcc]; rfl
  have hsub : c.sub = P.sub := by rw [← hcc]; rfl
  refine seq_Ok (asg_Ok (Q := fun d => ∃ r, d = .int r ∧ 0 ≤ r ∧ r ≤ ws.length) ?_) fun ρ' hq => ?_
  · refine Ok.eq (call1 (fs' := _) (xs := [.draw, .int (ws.length + 1)]) (j := 0) hcall (hnow _) ?_) ?_
    · have e3 : vbi c.sub .len [.lst (toksD ws)] = some (.int (ws.length : Int)) := by
        rw [show (ws.length : Int) = ((toksD ws).length : Int) by simp [toksD]]
        rfl
      simp only [lCons, lNil, eVar, eBin, eBi, eK, List.getElem?_cons_succ, List.getElem?_cons_zero, M.pure_bind, M.assoc, e3, opt_pure, add_ok]
    · refine Ok.imp (eT hn6 (by omega) ?_) fun d hd => ?_
      · have : ((ws.length : Int) + 1).natAbs.log2 < 64 := (Nat.log2_lt (by omega)).mpr (by omega)
        omega
      · obtain ⟨r, rfl, h1, h2⟩ := hd
        exact ⟨r, rfl, h1, by omega⟩
  obtain ⟨_, rfl, r, rfl, r0, r1⟩ := hq
  simp only [List.set_cons_succ, List.set_cons_zero]
  -- ahead, places
  refine seq_Ok (R := fun ρ' => ∃ T ps, ρ' = [.pl .draw, .pl (.lst (toksD ws)), .pl (.int r), .pl (.lst (ps.map fun (p : Nat) => D.int (p : Int))), .pl (.str (S T)), .un, .un, .un] ∧ SpF T (ws.take r.toNat) ps) ?_ fun ρ' hq => ?_
  · unfold sUnpack
    refine Ok.bind (Ok.eq (call1 (fs' := _) (xs := [.draw, .lst (toksD (ws.take r.toNat))]) (j := 0) hcall (hnow _) ?_) (spread_ok hn6 (ix_take hw _).1 (by simp; omega))) fun d hd => ?_
    · simp only [lCons, lNil, eVar, eSlice, oNone, oSome, List.getElem?_cons_succ, List.getElem?_cons_zero, M.pure_bind, M.assoc, cut_pre r0 r1, opt_pure]
    · obtain ⟨T, ps, rfl, h⟩ := hd
      exact Ok.pure ⟨_, rfl, T, ps, rfl, h⟩
  obtain ⟨T, ps, rfl, hT⟩ := hq
  -- behind
  refine seq_Ok (asg_Ok (Q := fun d => ∃ B ps, d = .str (S B) ∧ SpF B (ws.drop r.toNat) ps) ?_) fun ρ' hq => ?_
  · unfold eIx
    refine Ok.bind (Ok.eq (call1 (fs' := _) (xs := [.draw, .lst (toksD (ws.drop r.toNat))]) (j := 0) hcall (hnow _) ?_) (spread_ok hn6 (ix_take hw _).2 (by simp; omega))) fun d hd => ?_
    · simp only [lCons, lNil, eVar, eSlice, oNone, oSome, List.getElem?_cons_succ, List.getElem?_cons_zero, M.pure_bind, M.assoc, cut_suf r0 r1, opt_pure]
    · obtain ⟨B, ps, rfl, h⟩ := hd
      exact Ok.pure ⟨B, ps, rfl, h⟩
  obtain ⟨_, rfl, B, ps2, rfl, hB⟩ := hq
  simp only [List.set_cons_succ, List.set_cons_zero]
  have sz := rdSz hT hB (by simp; omega) (by simp; omega)
  -- odd
  refine seq_Ok (asg_Ok (Q := fun d => ∃ x, d = .str (S [x]) ∧ x ∈ odds) ?_) fun ρ' hq => ?_
  · refine Ok.eq (call1 (fs' := _) (xs := [.draw, .lst (odds.map fun x => D.str (S [x]))]) (j := 0) hcall (hnow _) ?_) (Ok.imp (eB hn6 (by decide) (by decide)) fun d hd => ?_)
    · simp only [lCons, lNil, eVar, eLst, eK, List.getElem?_cons_succ, List.getElem?_cons_zero, M.pure_bind, M.assoc, List.length_cons, List.length_nil, Nat.reduceAdd, Nat.reduceLeDiff, if_true, odds, List.map_cons, List.map_nil, t_65, t_90, t_95, t_42, t_46, t_33, t_126, t_38, t_60, t_91, t_39, t_35, t_36, t_64]
    · obtain ⟨x, hx, rfl⟩ := List.mem_map.mp hd
      exact ⟨x, rfl, hx⟩
  obtain ⟨_, rfl, x, rfl, hx⟩ := hq
  simp only [List.set_cons_succ, List.set_cons_zero]
  have hxs := odd_ok x hx
  refine if_Ok (not_Ok (b := true) ?_) ?_
  · refine Ok.eq (call1 (fs' := _) (xs := [.lam fs.length 0, .int (T.length : Int)]) (j := 0) hcall (hnow _) ?_) (bad_ok (by omega) (lam_bad (k := k + 3) (ρ := _) (caps := [4, 5, 6]) (e := ml0) rfl (at_end _ _) ?_))
    · simp only [lCons, lNil, eVar, eBi, hlam, List.getElem?_cons_succ, List.getElem?_cons_zero, M.pure_bind, M.assoc, len_ok (show T.length ≤ sizeLine from sz1000 (by omega)), opt_pure]
    · have c1 : vbin .add (.str (S T)) (.str (S [x])) = some (.str (S (T ++ [x]))) := cat_ok (sz1000 (by simp; omega))
      have c2 : vbin .add (.str (S (T ++ [x]))) (.str (S B)) = some (.str (S (T ++ [x] ++ B))) := cat_ok (sz1000 (by simp; omega))
      simp only [ml0, eCall, lCons, lNil, eBin, eVar, List.map_cons, List.map_nil, capS, List.getElem?_cons_succ, List.getElem?_cons_zero, M.pure_bind, M.assoc, c1, c2, opt_pure]
      exact reader_bad (by simp; omega) (fun z hz => by
        simp only [List.mem_append, List.mem_singleton] at hz
        rcases hz with (hz | rfl) | hz
        · have := hT.cps z hz; omega
        · omega
        · have := hB.cps z hz; omega) hn (rde_odd hT hx)
  -- ahead again
  refine seq_Ok (asg_Ok (Q := fun d => ∃ s, d = .str (S (T ++ [s])) ∧ s ∈ ([32, 10, 43, 58] : List Nat)) ?_) fun ρ' hq => ?_
  · refine Ok.eq (m' := (run P n (k + 6)).1 6 (fs ++ [[.pl .draw, .pl (.lst (toksD ws)), .pl (.int r), .pl (.lst (ps.map fun (p : Nat) => D.int (p : Int))), .pl (.str (S T)), .pl (.str (S B)), .pl (.str (S [x])), .un]]) [.draw, .lst (([32, 10, 43, 58] : List Nat).map fun x => D.str (S [x]))] >>= fun y => M.opt (vbin .add (.str (S T)) y)) ?_ (Ok.bind (eB hn6 (by decide) (by decide)) fun d hd => ?_)
    · simp only [eBin, eCall, lCons, lNil, eVar, eLst, eK, List.getElem?_cons_succ, List.getElem?_cons_zero, M.pure_bind, M.assoc, List.length_cons, List.length_nil, Nat.reduceAdd, Nat.reduceLeDiff, if_true, List.map_cons, List.map_nil, s_s, s_n, s_pl, s_co, hcall, hnow]
    · obtain ⟨s, hs, rfl⟩ := List.mem_map.mp hd
      have c1 : vbin .add (.str (S T)) (.str (S [s])) = some (.str (S (T ++ [s]))) := cat_ok (sz1000 (by simp; omega))
      rw [c1]
      exact Ok.pure ⟨s, rfl, hs⟩
  obtain ⟨_, rfl, s, rfl, hs⟩ := hq
  simp only [List.set_cons_succ, List.set_cons_zero]
  have hss := sep_ok s hs
  -- the row
  refine seq_Ok (asg_Ok (Q := fun d => ∃ w, d = .str (S w) ∧ BadRow w) ?_) fun ρ' hq => ?_
  · generalize hE : ([.pl .draw, .pl (.lst (toksD ws)), .pl (.int r), .pl (.lst (ps.map fun (p : Nat) => D.int (p : Int))), .pl (.str (S (T ++ [s]))), .pl (.str (S B)), .pl (.str (S [x])), .un] : Env1) = E
    have h0 : E[0]? = some (.pl .draw) := by rw [← hE]; rfl
    refine Ok.eq (m' := (run P n (k + 6)).1 5 (fs ++ [E]) [.draw, .int 100000000] >>= fun a => M.opt (vbi c.sub .str [a]) >>= fun a1 => M.opt (vbin .add (.str (S [48])) a1) >>= fun a2 => (run P n (k + 6)).1 5 (fs ++ [E]) [.draw, .int 9000000000] >>= fun b => M.opt (vbin .add (.int 1000000000) b) >>= fun b1 => M.opt (vbi c.sub .str [b1]) >>= fun b2 =>
      (run P n (k + 6)).1 6 (fs ++ [E]) [.draw, .lst [.str (S [48, 48]), .str (S [48, 49]), a2, b2, .str (S [49, 50, 51, 52, 53, 54, 55, 56, 57, 48, 49, 50, 51])]]) ?_ ?_
    · simp only [eCall, lCons, lNil, eLst, eBi, eBin, M.assoc, eVar, eK, h0, M.pure_bind, hcall, hnow, p108, p109, m99, opt_pure, s_00, s_01, s_13, e0, List.length_cons, List.length_nil, Nat.reduceAdd, Nat.reduceLeDiff, if_true]
    · refine Ok.bind (eT hn6 (by decide) (by decide)) fun a ha => ?_
      obtain ⟨z, rfl, z0, z1⟩ := ha
      obtain ⟨v, rfl⟩ : ∃ v : Nat, z = v := ⟨z.toNat, by omega⟩
      have v8 : v < 10 ^ 8 := by omega
      rw [str_ok (by omega), opt_pure, M.pure_bind]
      have c1 : vbin .add (.str (S [48])) (.str (S (figs v))) = some (.str (S ([48] ++ figs v))) := cat_ok (sz1000 (by have := (figs_len (v := v) (k := 8) (by decide)).mpr v8; simp; omega))
      rw [c1, opt_pure, M.pure_bind]
      refine Ok.bind (eT hn6 (by decide) (by decide)) fun b hb => ?_
      obtain ⟨y, rfl, y0, y1⟩ := hb
      obtain ⟨u, rfl⟩ : ∃ u : Nat, y = u := ⟨y.toNat, by omega⟩
      have c2 : vbin .add (.int 1000000000) (.int (u : Int)) = some (.int ((1000000000 + u : Nat) : Int)) := by
        rw [add_ok]
        congr 2
      rw [c2, opt_pure, M.pure_bind, str_ok (by omega), opt_pure, M.pure_bind]
      refine Ok.imp (eB hn6 (by simp) (by simp)) fun d hd => ?_
      simp only [List.mem_cons, List.not_mem_nil, or_false] at hd
      rcases hd with rfl | rfl | rfl | rfl | rfl
      · exact ⟨_, rfl, r_00⟩
      · exact ⟨_, rfl, r_01⟩
      · exact ⟨_, rfl, r_0v v8⟩
      · exact ⟨_, rfl, r_9v (by omega) (by omega)⟩
      · exact ⟨_, rfl, r_13⟩
  obtain ⟨_, rfl, w, rfl, hw9⟩ := hq
  simp only [List.set_cons_succ, List.set_cons_zero]
  refine Ok.eq ret_run ?_
  refine Ok.eq (call1 (fs' := _) (xs := [.lam fs.length 1, .int ((T ++ [s]).length : Int)]) (j := 0) hcall (hnow _) ?_) (bad_ok (by simp; omega) (lam_bad (k := k + 3) (ρ := _) (caps := [4, 5, 7]) (e := ml1) rfl (at_end _ _) ?_))
  · simp only [lCons, lNil, eVar, eBi, hlam, List.getElem?_cons_succ, List.getElem?_cons_zero, M.pure_bind, M.assoc, len_ok (show (T ++ [s]).length ≤ sizeLine from sz1000 (by simp; omega)), opt_pure]
  · have w20 := hw9.2.2.1
    have c1 : vbin .add (.str (S (T ++ [s]))) (.str (S w)) = some (.str (S (T ++ [s] ++ w))) := cat_ok (sz1000 (by simp; omega))
    have c2 : vbin .add (.str (S (T ++ [s] ++ w))) (.str (S [32])) = some (.str (S (T ++ [s] ++ w ++ [32]))) := cat_ok (sz1000 (by simp; omega))
    have c3 : vbin .add (.str (S (T ++ [s] ++ w ++ [32]))) (.str (S B)) = some (.str (S (T ++ [s] ++ w ++ [32] ++ B))) := cat_ok (sz1000 (by simp; omega))
    simp only [ml1, eCall, lCons, lNil, eBin, eVar, eK, s_s, List.map_cons, List.map_nil, capS, List.getElem?_cons_succ, List.getElem?_cons_zero, M.pure_bind, M.assoc, c1, c2, c3, opt_pure]
    exact reader_bad (by simp; omega) (fun z hz => by
      simp only [List.mem_append, List.mem_singleton] at hz
      rcases hz with (((hz | rfl) | hz) | rfl) | hz
      · have := hT.cps z hz; omega
      · omega
      · have := db2 z (hw9.2.1 z hz); omega
      · omega
      · have := hB.cps z hz; omega) hn (rde_row hT hs hw9)
end
end K11
end

section
set_option Elab.async false
set_option linter.all false
set_option maxRecDepth 100000
set_option maxHeartbeats 4000000
namespace K11
open PySem Pv
def lawIt : CL := (iRange (eBin .add (eK (.int 3)) (eBi .min2 (lCons (eBi .len (lCons (eVar 0) lNil)) (lCons (eK (.int 5)) lNil)))))
def lawB : CS := (sSeq (sAsg 2 (eComp [9] (.name 9) (iRange (eCall 5 (lCons (eVar 7) (lCons (eK (.int 14)) lNil)))) (eK (.bl true)) (eCall 12 (lCons (eVar 7) lNil)))) (sSeq (sUnpack [3, 4] (eCall 11 (lCons (eVar 7) (lCons (eVar 2) lNil)))) (sSeq (sAsg 5 (eBi .tuple (lCons (eComp [10, 11] (.names [10, 11]) (iZip (eVar 2) (eVar 4)) (eK (.bl true)) (eTup (lCons (eVar 10) (lCons (eVar 11) lNil)))) lNil))) (sSeq (sIf (eOr (eNot (eCall 8 (lCons (eCall 2 (lCons (eVar 3) lNil)) (lCons (eVar 5) lNil)))) (eNot (eCall 8 (lCons (eCall 2 (lCons (eBin .add (eVar 3) (eK (.str " \n "))) lNil)) (lCons (eVar 5) lNil))))) (sRet (eK (.bl false))) sPass) (sSeq (sIf (eNot (eCall 13 (lCons (eVar 7) (lCons (eVar 2) lNil)))) (sRet (eK (.bl false))) sPass) (sSeq (sAsg 6 (eCall 5 (lCons (eVar 7) (lCons (eK (.int 3)) lNil)))) (sSeq (sAsg 8 (eBin .add (eVar 3) (eBin .mul (eK (.str " ")) (eBin .sub (eBin .add (eK (.int 3999)) (eVar 6)) (eBi .len (lCons (eVar 3) lNil)))))) (sSeq (sIf (eOr (eAnd (eCmp .eq (eVar 6) (eK (.int 2))) (eNot (eCall 9 (lCons (eLam 2) (lCons (eK (.int 0)) lNil))))) (eAnd (eCmp .lt (eVar 6) (eK (.int 2))) (eNot (eCall 8 (lCons (eCall 2 (lCons (eVar 8) lNil)) (lCons (eVar 5) lNil)))))) (sRet (eK (.bl false))) sPass) (sIf (eNot (eCall 9 (lCons (eLam 3) (lCons (eK (.int 0)) lNil)))) (sRet (eK (.bl false))) sPass)))))))))
def lawR : CE := (eCall 8 (lCons (eCall 2 (lCons (eK (.str "")) lNil)) (lCons (eTup lNil) lNil)))
theorem law_eq : m_law = (sSeq (sAsg 7 (eCall 3 (lCons (eVar 0) lNil))) (sSeq (sFor (.name 1) lawIt lawB) (sRet lawR))) := rfl
section
variable {I : DS → Prop} {n k : Nat} {fs : List Env1}
theorem floop_Ok {tg : Tg} {b : Env1 → M Fl} {Inv : Env1 → Prop} (hb : ∀ x ρ, Inv ρ → ∃ ρ1, bindTg tg x ρ = some ρ1 ∧ Ok I (b ρ1) fun q => ∃ ρ', q = .nx ρ' ∧ Inv ρ') : ∀ xs ρ, Inv ρ → Ok I (floop tg b xs ρ) fun q => ∃ ρ', q = .nx ρ' ∧ Inv ρ'
  | [], ρ, h => Ok.pure ⟨ρ, rfl, h⟩
  | x :: r, ρ, h => by
    obtain ⟨ρ1, e, h1⟩ := hb x ρ h
    show Ok I (M.opt (bindTg tg x ρ) >>= _) _
    rw [e, opt_pure, M.pure_bind]
    refine Ok.bind h1 fun q hq => ?_
    obtain ⟨ρ', rfl, h2⟩ := hq
    exact floop_Ok hb r ρ' h2
theorem seqF {a b : CS} {c : Pv.Ctx} {ρ : Env1} {R : Env1 → Prop} {Q : Fl → Prop} (h : Ok I (a c ρ) fun q => ∃ ρ', q = .nx ρ' ∧ R ρ') (k : ∀ ρ', R ρ' → Ok I (b c ρ') Q) : Ok I ((sSeq a b) c ρ) Q := by
  refine Ok.bind h fun q hq => ?_
  obtain ⟨ρ', rfl, hr⟩ := hq
  exact k ρ' hr
theorem ifF {t A : CE} {c : Pv.Ctx} {ρ : Env1} (h : Ok I (t c ρ) fun d => d = .bl false) : Ok I ((sIf t (sRet A) sPass) c ρ) fun q => ∃ ρ', q = .nx ρ' ∧ ρ' = ρ := by
  unfold sIf
  refine Ok.bind h fun d hd => ?_
  subst hd
  rw [vb_bl2, M.pure_bind, if_neg (by simp)]
  exact Ok.pure ⟨ρ, rfl, rfl⟩
theorem mloop_encs {f : D → List D → M (List D)} (hf : ∀ p acc, acc.length < 1000 → f (enc p) acc = pure (acc ++ [enc p])) : ∀ (out : List (List Nat × Nat)) (acc : List D), acc.length + out.length ≤ 1000 → mloop f (out.map enc) acc = pure (acc ++ out.map enc)
  | [], acc, _ => by simp; rfl
  | p :: out, acc, h => by
    simp only [List.length_cons] at h
    show (f (enc p) acc >>= fun a => mloop f (out.map enc) a) = _
    rw [hf p acc (by omega), M.pure_bind, mloop_encs hf out _ (by simp; omega)]
    simp
theorem noLams_encs : ∀ out : List (List Nat × Nat), noLams 0 (out.map enc) = true
  | [] => rfl
  | p :: out => by
    show (noLam 0 (enc p) && noLams 0 (out.map enc)) = true
    rw [noLams_encs out]
    rfl
theorem zip_encs : ∀ (ws : List (List Nat)) (ps : List Nat), (((toksD ws).zip (ps.map fun (p : Nat) => D.int (p : Int))).map fun p => D.tup [p.1, p.2]) = (ws.zip ps).map enc
  | [], _ => by simp [toksD]
  | _ :: _, [] => by simp [toksD]
  | w :: ws, p :: ps => by
    have := zip_encs ws ps
    simp only [toksD, List.map_cons, List.zip_cons_cons] at this ⊢
    rw [this]
    rfl
theorem toks_of {zs : List D} (h : ∀ z ∈ zs, ∃ w, z = .str (S w) ∧ Tk w) : ∃ ws, zs = toksD ws ∧ ws.length = zs.length ∧ ∀ w ∈ ws, Tk w := by
  induction zs with
  | nil => exact ⟨[], rfl, rfl, by simp⟩
  | cons z zs ih =>
    obtain ⟨w, rfl, hw⟩ := h z List.mem_cons_self
    obtain ⟨ws, h1, h2, h3⟩ := ih fun y hy => h y (List.mem_cons_of_mem _ hy)
    refine ⟨w :: ws, by rw [h1]; rfl, by simp [h2], fun v hv => ?_⟩
    rcases List.mem_cons.mp hv with rfl | hv
    · exact hw
    · exact h3 v hv
theorem rp_zip {T : List Nat} {ws : List (List Nat)} {ps : List Nat} (h : SpF T ws ps) (hw : ∀ w ∈ ws, Tk w) (hl : ws.length ≤ 20) : Rp (.tup ((ws.zip ps).map enc)) := by
  refine rp_encs (by rw [List.length_zip]; omega) fun p hp => ?_
  obtain ⟨h1, h2⟩ := List.of_mem_zip (a := p.1) (b := p.2) hp
  have t := (hw _ h1).sz
  have q := h.pl _ h2
  have z := h.sz
  exact ⟨t.2.2, by omega, Nat.lt_of_le_of_lt (show p.2 ≤ 1000 by omega) (by decide)⟩
theorem s_sns : (" \n " : Str) = S [32, 10, 32] := by decide +kernel
theorem s_b : ("b" : Str) = S [98] := by decide +kernel
theorem s_a : ("a" : Str) = S [97] := by decide +kernel
theorem sp_mul {j : Int} (h0 : 0 ≤ j) (h1 : j ≤ 5000) : vbin .mul (.str (S [32])) (.int j) = some (.str (S (List.replicate j.toNat 32))) := by
  show (if decide (j < 2 ^ 62) && (decide (-(2 ^ 62) < j) && decide ((S [32]).length * j.toNat ≤ 1000000)) then some (D.str ⟨(List.replicate j.toNat (S [32]).cps.toList).flatten.toArray⟩) else none) = _
  rw [S_len, S_list, if_pos (by simp; omega), List.flatten_replicate_singleton]
  rfl
theorem lam_badE {n k fid b : Nat} {fs : List Env1} {caps : List Nat} {e : CE} {ρ : Env1} {x : Option D} (hl : P.lams b = some (caps, e)) (hf : fs[fid]? = some ρ) (h : Ex Gd (e (ctxOf P n (run P n k) false fs) (caps.map (capS ρ))) 1 x) : Ex Gd ((run P n (k + 1)).2 fid b fs) 1 x := by
  rw [run_lam hl hf]
  exact h
end
section
variable {n k : Nat} {fs : List Env1}
def Inv (ns : List Int) (ρ : Env1) : Prop := ∃ a1 a2 a3 a4 a5 a6 a8 a9 a10 a11, ρ = [.pl (.scr ns), a1, a2, a3, a4, a5, a6, .pl .draw, a8, a9, a10, a11]
theorem ml3_bad (hn6 : 63 < n) {fs : List Env1} : Ex Gd (ml3 (ctxOf P n (run P n (k + 4)) false fs) [.pl .draw]) 1 (some (.int ((0 : Nat) : Int))) := by
  refine Ex.eq (m' := (run P n (k + 4)).1 6 fs [.draw, .lst [.non, .int 5, .lst [.str (S [97])], .tup [.str (S [97]), .str (S [98])]]] >>= fun d => (run P n (k + 4)).1 2 fs [d]) ?_ (Ok.bindE (eB hn6 (by simp) (by simp)) fun d hd => ?_)
  · simp only [ml3, eCall, lCons, lNil, eVar, eK, eLst, eTup, List.getElem?_cons_succ, List.getElem?_cons_zero, M.pure_bind, M.assoc, List.length_cons, List.length_nil, Nat.reduceAdd, Nat.reduceLeDiff, if_true, s_a, s_b]
    rfl
  · simp only [List.mem_cons, List.not_mem_nil, or_false] at hd
    rcases hd with rfl | rfl | rfl | rfl
    · exact Ex.eq (reader_none rfl) Ex.raise
    · exact Ex.eq (reader_none rfl) Ex.raise
    · exact Ex.eq (reader_none rfl) Ex.raise
    · exact Ex.eq (reader_none rfl) Ex.raise
theorem body_ok (hn : 4000 < n) {c : Pv.Ctx} {ns : List Int} (hcall : c.call = (run P n (k + 7)).1) (hnow : ∀ ρ, c.now ρ = fs ++ [ρ]) (hlam : ∀ b ρ, (eLam b) c ρ = pure (.lam fs.length b)) (hsub : c.sub = P.sub) {ρ : Env1} (h : Inv ns ρ) :
    Ok Gd (lawB c ρ) fun q => ∃ ρ', q = .nx ρ' ∧ Inv ns ρ' := by
  have hn6 : 63 < n := by omega
  obtain ⟨a1, a2, a3, a4, a5, a6, a8, a9, a10, a11, rfl⟩ := h
  unfold lawB
  -- tokens
  refine seqF (asg_Ok (Q := fun d => ∃ ws, d = .lst (toksD ws) ∧ ws.length ≤ 13 ∧ ∀ w ∈ ws, Tk w) ?_) fun ρ' hq => ?_
  · refine Ok.imp (comp_Ok (Pm := fun m => m ≤ 13) (R := fun d => ∃ w, d = .str (S w) ∧ Tk w) (range_Ok (Ok.eq (call1 (fs' := _) (xs := [.draw, .int 14]) (j := 0) hcall (hnow _) ?_) (Ok.imp (eT hn6 (by decide) (by decide)) fun d hd => ?_))) fun x => ?_) fun d hd => ?_
    · simp only [lCons, lNil, eVar, eK, List.getElem?_cons_succ, List.getElem?_cons_zero, M.pure_bind]
    · obtain ⟨r, rfl, h1, h2⟩ := hd
      exact ⟨r.toNat, by congr 1; omega, by omega, by omega⟩
    · have e : (eCall 12 (lCons (eVar 7) lNil)) { c with fl := false, fs := [] } ((wipeE (([.pl (.scr ns), a1, a2, a3, a4, a5, a6, .pl .draw, a8, a9, a10, a11] : Env1).map cleanS) [9]).set 9 (.pl x)) = (run P n (k + 7)).1 12 [] [.draw] := by
        simp only [eCall, lCons, lNil, eVar, List.map_cons, List.map_nil, cleanS, noLam, if_true, wipeE, List.set_cons_succ, List.set_cons_zero, List.getElem?_cons_succ, List.getElem?_cons_zero, M.pure_bind, hcall]
        rfl
      exact Ok.eq e (token_ok hn6)
    · obtain ⟨zs, rfl, hl, hz⟩ := hd
      obtain ⟨ws, rfl, h2, h3⟩ := toks_of hz
      exact ⟨ws, rfl, by omega, h3⟩
  obtain ⟨_, rfl, ws, rfl, hl, hw⟩ := hq
  simp only [List.set_cons_succ, List.set_cons_zero]
  -- text, places
  refine seqF (R := fun ρ' => ∃ T ps, ρ' = [.pl (.scr ns), a1, .pl (.lst (toksD ws)), .pl (.str (S T)), .pl (.lst (ps.map fun (p : Nat) => D.int (p : Int))), a5, a6, .pl .draw, a8, a9, a10, a11] ∧ SpF T ws ps) ?_ fun ρ' hq => ?_
  · unfold sUnpack
    refine Ok.bind (Ok.eq (call1 (fs' := _) (xs := [.draw, .lst (toksD ws)]) (j := 0) hcall (hnow _) ?_) (spread_ok hn6 hw (by omega))) fun d hd => ?_
    · simp only [lCons, lNil, eVar, List.getElem?_cons_succ, List.getElem?_cons_zero, M.pure_bind]
    · obtain ⟨T, ps, rfl, h⟩ := hd
      exact Ok.pure ⟨_, rfl, T, ps, rfl, h⟩
  obtain ⟨T, ps, rfl, hT⟩ := hq
  have sz : T.length ≤ 147 := by have := hT.sz; omega
  have rp := rp_zip hT hw (by omega)
  have hu : ∀ x ∈ T, x < 1114112 := fun x hx => by have := hT.cps x hx; omega
  -- due
  refine seqF (asg_Ok (Q := fun d => d = .tup ((ws.zip ps).map enc)) ?_) fun ρ' hq => ?_
  · refine Ok.eq (m' := pure (.tup ((ws.zip ps).map enc))) ?_ (Ok.pure rfl)
    have e : (eComp [10, 11] (.names [10, 11]) (iZip (eVar 2) (eVar 4)) (eK (.bl true)) (eTup (lCons (eVar 10) (lCons (eVar 11) lNil)))) c [.pl (.scr ns), a1, .pl (.lst (toksD ws)), .pl (.str (S T)), .pl (.lst (ps.map fun (p : Nat) => D.int (p : Int))), a5, a6, .pl .draw, a8, a9, a10, a11] = pure (.lst ((ws.zip ps).map enc)) := by
      unfold eComp
      have e0 : iZip (eVar 2) (eVar 4) c [.pl (.scr ns), a1, .pl (.lst (toksD ws)), .pl (.str (S T)), .pl (.lst (ps.map fun (p : Nat) => D.int (p : Int))), a5, a6, .pl .draw, a8, a9, a10, a11] = pure ((ws.zip ps).map enc) := by
        rw [← zip_encs]
        rfl
      rw [e0, M.pure_bind, if_pos (noLams_encs _), mloop_encs (fun p acc ha => ?_) _ _ (by simp only [List.length_nil, List.length_zip]; omega), M.pure_bind, List.nil_append]
      have e1 : ∀ ρ : Env1, bindTg (.names [10, 11]) (enc p) ρ = some ((ρ.set 10 (.pl (.str (S p.1)))).set 11 (.pl (.int (p.2 : Int)))) := fun ρ => rfl
      rw [e1, opt_pure, M.pure_bind]
      simp only [wipeE, List.map_cons, List.map_nil, List.set_cons_succ, List.set_cons_zero, eK, M.pure_bind, vb_bl2, nx_pure, if_true, eTup, lCons, lNil, eVar, List.getElem?_cons_succ, List.getElem?_cons_zero, List.length_cons, List.length_nil, Nat.reduceAdd, Nat.reduceLeDiff, M.assoc]
      rw [if_pos (Nat.lt_of_lt_of_le ha (by rw [sizeLine_eq]; decide))]
      rfl
    simp only [eBi, lCons, lNil, e, M.pure_bind, M.assoc]
    rfl
  obtain ⟨_, rfl, _, rfl, rfl⟩ := hq
  simp only [List.set_cons_succ, List.set_cons_zero]
  -- the text, read
  have rd0 : Rd 0 T (ws.zip ps) := by
    have q := hT.rd [] [] nj_nil (.nil _)
    rwa [List.append_nil, List.append_nil] at q
  have rdX : ∀ r : List Nat, (∀ i, Rd i r []) → Nj r → Rd 0 (T ++ r) (ws.zip ps) := fun r hr hj => by
    have q := hT.rd r [] hj (hr _)
    rwa [List.append_nil] at q
  refine seqF (ifF ?_) fun ρ' hq => ?_
  · have r1 : ∀ fs, (run P n (k + 7)).1 2 fs [.str (S T)] = pure (.tup ((ws.zip ps).map enc)) := fun fs => reader_ok (by omega) hu hn rd0
    have c1 : vbin .add (.str (S T)) (.str (S [32, 10, 32])) = some (.str (S (T ++ [32, 10, 32]))) := cat_ok (sz1000 (by simp; omega))
    have r2 : ∀ fs, (run P n (k + 7)).1 2 fs [.str (S (T ++ [32, 10, 32]))] = pure (.tup ((ws.zip ps).map enc)) := fun fs => reader_ok (by simp; omega) (fun x hx => by
      rcases List.mem_append.mp hx with hx | hx
      · exact hu x hx
      · simp at hx; omega) hn (rdX _ (fun i => .ws (by decide) (.ws (by decide) (.ws (by decide) (.nil _)))) (nj_cons (by decide)))
    have sm : ∀ fs, (run P n (k + 7)).1 8 fs [.tup ((ws.zip ps).map enc), .tup ((ws.zip ps).map enc)] = pure (.bl true) := fun fs => same_run rfl rp
    refine Ok.eq (m' := pure (.bl false)) ?_ (Ok.pure rfl)
    simp only [eOr, eNot, eCall, lCons, lNil, eVar, eK, eBin, List.getElem?_cons_succ, List.getElem?_cons_zero, M.pure_bind, M.assoc, hcall, s_sns, c1, opt_pure, r1, r2, sm, vb_bl2, Bool.not_true, Bool.false_eq_true, if_false]
  subst hq
  -- what is wrong is refused
  refine seqF (ifF (not_Ok (b := true) (Ok.eq (call1 (fs' := _) (xs := [.draw, .lst (toksD ws)]) (j := 0) hcall (hnow _) ?_) (wrong_right_ok hn hw (by omega))))) fun ρ' hq => ?_
  · simp only [lCons, lNil, eVar, List.getElem?_cons_succ, List.getElem?_cons_zero, M.pure_bind]
  subst hq
  -- much
  refine seqF (asg_Ok (Q := fun d => ∃ m : Nat, d = .int (m : Int) ∧ m < 3) ?_) fun ρ' hq => ?_
  · refine Ok.eq (call1 (fs' := _) (xs := [.draw, .int 3]) (j := 0) hcall (hnow _) ?_) (Ok.imp (eT hn6 (by decide) (by decide)) fun d hd => ?_)
    · simp only [lCons, lNil, eVar, eK, List.getElem?_cons_succ, List.getElem?_cons_zero, M.pure_bind]
    · obtain ⟨r, rfl, h1, h2⟩ := hd
      exact ⟨r.toNat, by congr 1; omega, by omega⟩
  obtain ⟨_, rfl, m, rfl, hm⟩ := hq
  simp only [List.set_cons_succ, List.set_cons_zero]
  -- long
  refine seqF (asg_Ok (Q := fun d => d = .str (S (T ++ List.replicate (3999 + m - T.length) 32))) ?_) fun ρ' hq => ?_
  · refine Ok.eq (m' := pure (.str (S (T ++ List.replicate (3999 + m - T.length) 32)))) ?_ (Ok.pure rfl)
    have c1 : vbin .mul (.str (S [32])) (.int (3999 + (m : Int) - (T.length : Int))) = some (.str (S (List.replicate (3999 + m - T.length) 32))) := by
      rw [sp_mul (by omega) (by omega), show (3999 + (m : Int) - (T.length : Int)).toNat = 3999 + m - T.length by omega]
    have c2 : vbin .add (.str (S T)) (.str (S (List.replicate (3999 + m - T.length) 32))) = some (.str (S (T ++ List.replicate (3999 + m - T.length) 32))) := cat_ok (sz1000 (by simp; omega))
    simp only [eBin, eBi, eK, lCons, lNil, eVar, List.getElem?_cons_succ, List.getElem?_cons_zero, M.pure_bind, M.assoc, add_ok, sub_ok, len_ok (show T.length ≤ sizeLine from sz1000 (by omega)), opt_pure, s_s, c1, c2]
  obtain ⟨_, rfl, _, rfl, rfl⟩ := hq
  simp only [List.set_cons_succ, List.set_cons_zero]
  have hlen : (T ++ List.replicate (3999 + m - T.length) 32).length = 3999 + m := by simp; omega
  generalize hL : T ++ List.replicate (3999 + m - T.length) 32 = L at hlen
  refine seqF (ifF ?_) fun ρ' hq => ?_
  · by_cases h2 : m = 2
    · subst h2
      generalize hE : ([.pl (.scr ns), a1, .pl (.lst (toksD ws)), .pl (.str (S T)), .pl (.lst (ps.map fun (p : Nat) => D.int (p : Int))), .pl (.tup ((ws.zip ps).map enc)), .pl (.int ((2 : Nat) : Int)), .pl .draw, .pl (.str (S L)), a9, a10, a11] : Env1) = E
      have e6 : (eVar 6) c E = pure (.int 2) := by rw [← hE]; rfl
      have b : Ok Gd ((eCall 9 (lCons (eLam 2) (lCons (eK (.int 0)) lNil))) c E) fun d => d = .bl true := by
        refine Ok.eq (call1 (fs' := _) (xs := [.lam fs.length 2, .int ((0 : Nat) : Int)]) (j := 0) hcall (hnow _) ?_) (bad_ok (by decide) (lam_bad (k := k + 4) (ρ := _) (caps := [8]) (e := ml2) rfl (at_end _ _) ?_))
        · simp only [lCons, lNil, hlam, eK, M.pure_bind]
          rfl
        · rw [← hE]
          simp only [ml2, eCall, lCons, lNil, eVar, List.map_cons, List.map_nil, capS, List.getElem?_cons_succ, List.getElem?_cons_zero, M.pure_bind]
          exact reader_long (sz1000 (by omega)) (by omega)
      have t1 : Ok Gd ((eAnd (eCmp .eq (eVar 6) (eK (.int 2))) (eNot (eCall 9 (lCons (eLam 2) (lCons (eK (.int 0)) lNil))))) c E) fun d => d = .bl false := by
        have e : (eAnd (eCmp .eq (eVar 6) (eK (.int 2))) (eNot (eCall 9 (lCons (eLam 2) (lCons (eK (.int 0)) lNil))))) c E = (eNot (eCall 9 (lCons (eLam 2) (lCons (eK (.int 0)) lNil)))) c E := by
          simp only [eAnd, eCmp, e6, eK, M.pure_bind, M.assoc, eq_ok, opt_pure, vb_bl2]
          rfl
        exact Ok.eq e (not_Ok (b := true) b)
      refine Ok.bind t1 fun d hd => ?_
      subst hd
      rw [vb_bl2, M.pure_bind, if_neg (by simp)]
      refine Ok.eq (m' := pure (.bl false)) ?_ (Ok.pure rfl)
      simp only [eAnd, eCmp, e6, eK, M.pure_bind, M.assoc, lt_ok, opt_pure, vb_bl2]
      rfl
    · have r1 : ∀ fs, (run P n (k + 7)).1 2 fs [.str (S L)] = pure (.tup ((ws.zip ps).map enc)) := fun fs => by
        subst hL
        refine reader_ok (by omega) (fun x hx => ?_) hn (rdX _ (fun i => rd_sp _ i) ?_)
        · rcases List.mem_append.mp hx with hx | hx
          · exact hu x hx
          · have := List.eq_of_mem_replicate hx
            omega
        · intro x r' e
          have : x ∈ List.replicate (3999 + m - T.length) 32 := by rw [e]; exact List.mem_cons_self
          rw [List.eq_of_mem_replicate this]
          decide
      have sm : ∀ fs, (run P n (k + 7)).1 8 fs [.tup ((ws.zip ps).map enc), .tup ((ws.zip ps).map enc)] = pure (.bl true) := fun fs => same_run rfl rp
      refine Ok.eq (m' := pure (.bl false)) ?_ (Ok.pure rfl)
      have q1 : ((m : Int) == 2) = false := by simp; omega
      have q2 : decide ((m : Int) < 2) = true := by simp; omega
      simp only [eOr, eAnd, eCmp, eNot, eCall, lCons, lNil, eVar, eK, List.getElem?_cons_succ, List.getElem?_cons_zero, M.pure_bind, M.assoc, hcall, eq_ok, lt_ok, q1, q2, opt_pure, r1, sm, vb_bl2, Bool.not_true, Bool.false_eq_true, if_false, if_true]
  subst hq
  -- what is no text
  refine Ok.imp (ifF (not_Ok (b := true) (Ok.eq (call1 (fs' := _) (xs := [.lam fs.length 3, .int ((0 : Nat) : Int)]) (j := 0) hcall (hnow _) ?_) (bad_ok (by decide) (lam_badE (k := k + 4) (ρ := _) (caps := [7]) (e := ml3) rfl (at_end _ _) ?_))))) fun q hq => ?_
  · simp only [lCons, lNil, hlam, eK, M.pure_bind]
    rfl
  · exact ml3_bad hn6
  · obtain ⟨_, rfl, rfl⟩ := hq
    exact ⟨_, rfl, _, _, _, _, _, _, _, _, _, _, rfl⟩
theorem law_ok (hn : 4000 < n) {ns : List Int} (h : ns.length ≤ 63) : ∃ t, (run P n (k + 8)).1 14 [] [.scr ns] none = .ok (.bl true) t := by
  rw [run_code (b := m_law) rfl rfl, law_eq]
  have e2 : startE 12 [.scr ns] = [.pl (.scr ns), .un, .un, .un, .un, .un, .un, .un, .un, .un, .un, .un] := rfl
  rw [e2]
  generalize hcc : ctxOf P n (run P n (k + 7)) true [] = c
  have hcall : c.call = (run P n (k + 7)).1 := by rw [← hcc]; rfl
  have hnow : ∀ ρ, c.now ρ = [] ++ [ρ] := fun ρ => by rw [← hcc]; rfl
  have hlam : ∀ b ρ, (eLam b) c ρ = pure (.lam ([] : List Env1).length b) := fun b ρ => by rw [← hcc]; rfl
  have hsub : c.sub = P.sub := by rw [← hcc]; rfl
  have fin : Ok Gd ((sSeq (sFor (.name 1) lawIt lawB) (sRet lawR)) c [.pl (.scr ns), .un, .un, .un, .un, .un, .un, .pl .draw, .un, .un, .un, .un] >>= rtD) fun d => d = .bl true := by
    refine seq_Ok (R := Inv ns) ?_ fun ρ' hq => ?_
    · unfold sFor
      refine Ok.bind (range_Ok (Pm := fun _ => True) ?_) fun xs _ => floop_Ok (Inv := Inv ns) (fun x ρ hρ => ?_) xs _ ⟨_, _, _, _, _, _, _, _, _, _, rfl⟩
      · have e3 : (eBin .add (eK (.int 3)) (eBi .min2 (lCons (eBi .len (lCons (eVar 0) lNil)) (lCons (eK (.int 5)) lNil)))) c [.pl (.scr ns), .un, .un, .un, .un, .un, .un, .pl .draw, .un, .un, .un, .un] = pure (.int (3 + (if (5 : Int) < (ns.length : Int) then (5 : Int) else (ns.length : Int)))) := rfl
        refine Ok.eq e3 (Ok.pure ⟨3 + min ns.length 5, ?_, by omega, trivial⟩)
        congr 1
        split <;> omega
      · obtain ⟨a1, a2, a3, a4, a5, a6, a8, a9, a10, a11, rfl⟩ := hρ
        exact ⟨_, rfl, body_ok hn hcall hnow hlam hsub ⟨_, _, _, _, _, _, _, _, _, _, rfl⟩⟩
    · obtain ⟨a1, a2, a3, a4, a5, a6, a8, a9, a10, a11, rfl⟩ := hq
      have r1 : ∀ fs, (run P n (k + 7)).1 2 fs [.str (S [])] = pure (.tup (([] : List (List Nat × Nat)).map enc)) := fun fs => reader_ok (by simp) (by simp) hn (.nil 0)
      have sm : ∀ fs, (run P n (k + 7)).1 8 fs [.tup (([] : List (List Nat × Nat)).map enc), .tup (([] : List (List Nat × Nat)).map enc)] = pure (.bl true) := fun fs => same_run rfl (rp_encs (by simp) (by simp))
      refine Ok.eq ret_run (Ok.eq (m' := pure (.bl true)) ?_ (Ok.pure rfl))
      simp only [List.map_nil] at r1 sm
      simp only [lawR, eCall, lCons, lNil, eK, eTup, M.pure_bind, M.assoc, hcall, s_e, r1, List.length_nil, Nat.zero_le, if_true, sm]
  obtain ⟨s, hs, hl⟩ := begun_run (n := n) (ig := 3) (P := P) rfl (k := k + 6) (fs := [[.pl (.scr ns), .un, .un, .un, .un, .un, .un, .un, .un, .un, .un, .un]]) (ns := ns) (Nat.le_trans h (sz1000 (by decide)))
  obtain ⟨a, s1, e, _, rfl⟩ := fin s (Nat.le_trans hl h)
  refine ⟨some s1, ?_⟩
  have e4 : ((sSeq (sAsg 7 (eCall 3 (lCons (eVar 0) lNil))) (sSeq (sFor (.name 1) lawIt lawB) (sRet lawR))) c [.pl (.scr ns), .un, .un, .un, .un, .un, .un, .un, .un, .un, .un, .un] >>= rtD) = ((run P n (k + 7)).1 3 [[.pl (.scr ns), .un, .un, .un, .un, .un, .un, .un, .un, .un, .un, .un]] [.scr ns] >>= fun x => ((sSeq (sFor (.name 1) lawIt lawB) (sRet lawR)) c [.pl (.scr ns), .un, .un, .un, .un, .un, .un, .pl x, .un, .un, .un, .un] >>= rtD)) := by
    have e5 : ∀ (a b : CS) (ρ : Env1), (sSeq a b) c ρ = (a c ρ >>= fun q => match q with | .nx ρ' => b c ρ' | o => pure o) := fun _ _ _ => rfl
    rw [e5]
    simp only [sAsg, eCall, lCons, lNil, eVar, List.getElem?_cons_succ, List.getElem?_cons_zero, M.pure_bind, M.assoc, hcall, hnow, List.nil_append, List.set_cons_succ, List.set_cons_zero]
  rw [e4]
  unfold outD
  rw [M.run_bind, hs]
  show (match ((sSeq (sFor (.name 1) lawIt lawB) (sRet lawR)) c [.pl (.scr ns), .un, .un, .un, .un, .un, .un, .pl .draw, .un, .un, .un, .un] >>= rtD) (some s) with | .ok d t' => _ | .exc c x t' => _ | .bad => _) = _
  rw [e]
  rfl
end
end K11
end

section
set_option Elab.async false
set_option linter.all false
set_option maxRecDepth 100000
set_option maxHeartbeats 4000000
namespace K11
open PySem Pv
theorem pure_law (ns : List Int) (h : ns.length ≤ 63) (hb : ∀ z ∈ ns, Builtin.Int.intBits z ≤ 1048576) : ∃ t, (run P 20000 20).1 14 [] [.scr ns] none = .ok (.bl true) t := law_ok (k := 12) (by decide) h
end K11
end

section
set_option Elab.async false
set_option linter.all false
set_option maxRecDepth 100000
set_option maxHeartbeats 4000000
namespace K11
open PySem PySem.Spec PyProof.Rows L2 Pv
theorem all_mk {w : World} {K : PySem.W.Frag} {h : Heap} {mg : Str → Option Value} {fa : Addr}
    {f0 : Addr} {oc0 kV0 dc0 pm0 ct0 : Value} {od0 an0 : Option Addr} {sl0 : Array (Option Value)}
    {cd0 : Value}
    {f1 : Addr} {oc1 kV1 dc1 pm1 ct1 : Value} {od1 an1 : Option Addr} {sl1 : Array (Option Value)}
    {cd1 : Value}
    {f2 : Addr} {oc2 kV2 dc2 pm2 ct2 : Value} {od2 an2 : Option Addr} {sl2 : Array (Option Value)}
    {cd2 : Value}
    {f3 : Addr} {oc3 kV3 dc3 pm3 ct3 : Value} {od3 an3 : Option Addr} {sl3 : Array (Option Value)}
    {cd3 : Value}
    {f4 : Addr} {oc4 kV4 dc4 pm4 ct4 : Value} {od4 an4 : Option Addr} {sl4 : Array (Option Value)}
    {cd4 : Value}
    {f5 : Addr} {oc5 kV5 dc5 pm5 ct5 : Value} {od5 an5 : Option Addr} {sl5 : Array (Option Value)}
    {cd5 : Value}
    {f6 : Addr} {oc6 kV6 dc6 pm6 ct6 : Value} {od6 an6 : Option Addr} {sl6 : Array (Option Value)}
    {cd6 : Value}
    {f7 : Addr} {oc7 kV7 dc7 pm7 ct7 : Value} {od7 an7 : Option Addr} {sl7 : Array (Option Value)}
    {cd7 : Value}
    {f8 : Addr} {oc8 kV8 dc8 pm8 ct8 : Value} {od8 an8 : Option Addr} {sl8 : Array (Option Value)}
    {cd8 : Value}
    {f9 : Addr} {oc9 kV9 dc9 pm9 ct9 : Value} {od9 an9 : Option Addr} {sl9 : Array (Option Value)}
    {cd9 : Value}
    {f10 : Addr} {oc10 kV10 dc10 pm10 ct10 : Value} {od10 an10 : Option Addr} {sl10 : Array (Option Value)}
    {cd10 : Value}
    {f11 : Addr} {oc11 kV11 dc11 pm11 ct11 : Value} {od11 an11 : Option Addr} {sl11 : Array (Option Value)}
    {cd11 : Value}
    {f12 : Addr} {oc12 kV12 dc12 pm12 ct12 : Value} {od12 an12 : Option Addr} {sl12 : Array (Option Value)}
    {cd12 : Value}
    {f13 : Addr} {oc13 kV13 dc13 pm13 ct13 : Value} {od13 an13 : Option Addr} {sl13 : Array (Option Value)}
    {c13 Pa13 : Addr} {co13 : Value} {cod13 : Option Addr} {cvs13 : Array Value} {csl13 : Array (Option Value)}
    {f14 : Addr} {oc14 kV14 dc14 pm14 ct14 : Value} {od14 an14 : Option Addr} {sl14 : Array (Option Value)}
    {c14 Pa14 : Addr} {co14 : Value} {cod14 : Option Addr} {cvs14 : Array Value} {csl14 : Array (Option Value)}
    {tk_MOST_SIGNS : Tok}
    {tk_MOST_FIGURES : Tok}
    {tk_SMALL : Tok}
    {tk_FIGURES : Tok}
    {tk_SIGNS : Tok}
    {C0 : Addr}
    {C1 : Addr}
    {nm1 q1x : Str} {N1 : Addr} {bs1 bm1 : List Value} {sn1 : List Str} {sb1 : List Value} {ab1 : Bool} {col1 : Option Bool} {dd1 : Option Addr} {e0_1 e1_1 e2_1 e3_1 e5_1 : Option Value}
    {fI1 cda1 cc1 : Addr} {ioc1 : Value} {iod1 : Option Addr} {iosl1 : Array (Option Value)} {iq1 : Str} {ipar1 : Arguments} {isc1 : Scope} {idV1 ikV1 idc1 ipm1 ict1 : Value} {ian1 : Option Addr} {im1 : Str} {ij1 : Nat} {ip0_1 ip1_1 ip2_1 ip3_1 ip4_1 ip5_1 iq1_1 iq2_1 iq3_1 iq4_1 : Pos} {iar1 : Arg}
    {ca1 : Value} {cb1 : Option Addr} {cs1 : Array (Option Value)} {da1 : Value} {db1 : Option Addr} {dvs1 : Array Value} {ds1 : Array (Option Value)} {fil1 : Str} {ftk1 : Tok}
    (KX : K.In h) (G : h.Ns mainGlobals mg) (hfa : mg "law" = some (.ref fa))
    (a0 : PySem.W.nsIn K mainGlobals "end_of_row" = some (some (.ref f0)))
    (l0 : K.lookup f0 = some ⟨oc0, od0, .func (PySem.W.fnOf "end_of_row" "end_of_row" (defArgs s_end_of_row) (defBody s_end_of_row) (defScope s_end_of_row) .none kV0 dc0 pm0 an0 cd0 ct0), sl0⟩)
    (q0 : PySem.W.codeIn K cd0 "end_of_row" = true)
    (k0 : PySem.W.keepIn K (.ref f0) = true)
    (a1 : PySem.W.nsIn K mainGlobals "token_end" = some (some (.ref f1)))
    (l1 : K.lookup f1 = some ⟨oc1, od1, .func (PySem.W.fnOf "token_end" "token_end" (defArgs s_token_end) (defBody s_token_end) (defScope s_token_end) .none kV1 dc1 pm1 an1 cd1 ct1), sl1⟩)
    (q1 : PySem.W.codeIn K cd1 "token_end" = true)
    (k1 : PySem.W.keepIn K (.ref f1) = true)
    (a2 : PySem.W.nsIn K mainGlobals "reader_tokens" = some (some (.ref f2)))
    (l2 : K.lookup f2 = some ⟨oc2, od2, .func (PySem.W.fnOf "reader_tokens" "reader_tokens" (defArgs s_reader_tokens) (defBody s_reader_tokens) (defScope s_reader_tokens) .none kV2 dc2 pm2 an2 cd2 ct2), sl2⟩)
    (q2 : PySem.W.codeIn K cd2 "reader_tokens" = true)
    (k2 : PySem.W.keepIn K (.ref f2) = true)
    (a3 : PySem.W.nsIn K mainGlobals "_law_begun" = some (some (.ref f3)))
    (l3 : K.lookup f3 = some ⟨oc3, od3, .func (PySem.W.fnOf "_law_begun" "_law_begun" (defArgs s__law_begun) (defBody s__law_begun) (defScope s__law_begun) .none kV3 dc3 pm3 an3 cd3 ct3), sl3⟩)
    (q3 : PySem.W.codeIn K cd3 "_law_begun" = true)
    (k3 : PySem.W.keepIn K (.ref f3) = true)
    (a4 : PySem.W.nsIn K mainGlobals "_law_blend" = some (some (.ref f4)))
    (l4 : K.lookup f4 = some ⟨oc4, od4, .func (PySem.W.fnOf "_law_blend" "_law_blend" (defArgs s__law_blend) (defBody s__law_blend) (defScope s__law_blend) .none kV4 dc4 pm4 an4 cd4 ct4), sl4⟩)
    (q4 : PySem.W.codeIn K cd4 "_law_blend" = true)
    (k4 : PySem.W.keepIn K (.ref f4) = true)
    (a5 : PySem.W.nsIn K mainGlobals "_law_take" = some (some (.ref f5)))
    (l5 : K.lookup f5 = some ⟨oc5, od5, .func (PySem.W.fnOf "_law_take" "_law_take" (defArgs s__law_take) (defBody s__law_take) (defScope s__law_take) .none kV5 dc5 pm5 an5 cd5 ct5), sl5⟩)
    (q5 : PySem.W.codeIn K cd5 "_law_take" = true)
    (k5 : PySem.W.keepIn K (.ref f5) = true)
    (a6 : PySem.W.nsIn K mainGlobals "_law_pick" = some (some (.ref f6)))
    (l6 : K.lookup f6 = some ⟨oc6, od6, .func (PySem.W.fnOf "_law_pick" "_law_pick" (defArgs s__law_pick) (defBody s__law_pick) (defScope s__law_pick) .none kV6 dc6 pm6 an6 cd6 ct6), sl6⟩)
    (q6 : PySem.W.codeIn K cd6 "_law_pick" = true)
    (k6 : PySem.W.keepIn K (.ref f6) = true)
    (a7 : PySem.W.nsIn K mainGlobals "_law_caught" = some (some (.ref f7)))
    (l7 : K.lookup f7 = some ⟨oc7, od7, .func (PySem.W.fnOf "_law_caught" "_law_caught" (defArgs s__law_caught) (defBody s__law_caught) (defScope s__law_caught) .none kV7 dc7 pm7 an7 cd7 ct7), sl7⟩)
    (q7 : PySem.W.codeIn K cd7 "_law_caught" = true)
    (k7 : PySem.W.keepIn K (.ref f7) = true)
    (a8 : PySem.W.nsIn K mainGlobals "_law_same" = some (some (.ref f8)))
    (l8 : K.lookup f8 = some ⟨oc8, od8, .func (PySem.W.fnOf "_law_same" "_law_same" (defArgs s__law_same) (defBody s__law_same) (defScope s__law_same) .none kV8 dc8 pm8 an8 cd8 ct8), sl8⟩)
    (q8 : PySem.W.codeIn K cd8 "_law_same" = true)
    (k8 : PySem.W.keepIn K (.ref f8) = true)
    (a9 : PySem.W.nsIn K mainGlobals "_law_is_bad_text" = some (some (.ref f9)))
    (l9 : K.lookup f9 = some ⟨oc9, od9, .func (PySem.W.fnOf "_law_is_bad_text" "_law_is_bad_text" (defArgs s__law_is_bad_text) (defBody s__law_is_bad_text) (defScope s__law_is_bad_text) .none kV9 dc9 pm9 an9 cd9 ct9), sl9⟩)
    (q9 : PySem.W.codeIn K cd9 "_law_is_bad_text" = true)
    (k9 : PySem.W.keepIn K (.ref f9) = true)
    (a10 : PySem.W.nsIn K mainGlobals "_law_joins" = some (some (.ref f10)))
    (l10 : K.lookup f10 = some ⟨oc10, od10, .func (PySem.W.fnOf "_law_joins" "_law_joins" (defArgs s__law_joins) (defBody s__law_joins) (defScope s__law_joins) .none kV10 dc10 pm10 an10 cd10 ct10), sl10⟩)
    (q10 : PySem.W.codeIn K cd10 "_law_joins" = true)
    (k10 : PySem.W.keepIn K (.ref f10) = true)
    (a11 : PySem.W.nsIn K mainGlobals "_law_spread" = some (some (.ref f11)))
    (l11 : K.lookup f11 = some ⟨oc11, od11, .func (PySem.W.fnOf "_law_spread" "_law_spread" (defArgs s__law_spread) (defBody s__law_spread) (defScope s__law_spread) .none kV11 dc11 pm11 an11 cd11 ct11), sl11⟩)
    (q11 : PySem.W.codeIn K cd11 "_law_spread" = true)
    (k11 : PySem.W.keepIn K (.ref f11) = true)
    (a12 : PySem.W.nsIn K mainGlobals "_law_token" = some (some (.ref f12)))
    (l12 : K.lookup f12 = some ⟨oc12, od12, .func (PySem.W.fnOf "_law_token" "_law_token" (defArgs s__law_token) (defBody s__law_token) (defScope s__law_token) .none kV12 dc12 pm12 an12 cd12 ct12), sl12⟩)
    (q12 : PySem.W.codeIn K cd12 "_law_token" = true)
    (k12 : PySem.W.keepIn K (.ref f12) = true)
    (a13 : PySem.W.nsIn K mainGlobals "_law_wrong_right" = some (some (.ref f13)))
    (l13 : K.lookup f13 = some ⟨oc13, od13, .func (PySem.W.fnOf "_law_wrong_right" "_law_wrong_right" (defArgs s__law_wrong_right) (defBody s__law_wrong_right) (defScope s__law_wrong_right) .none kV13 dc13 pm13 an13 (.ref c13) ct13), sl13⟩)
    (q13 : PySem.W.codeIn K (.ref c13) "_law_wrong_right" = true)
    (k13 : PySem.W.keepIn K (.ref f13) = true)
    (lc13 : K.lookup c13 = some ⟨co13, cod13, .fields cvs13, csl13⟩)
    (pa13 : cvs13[11]? = some (.ref Pa13))
    (hd13 : PySem.W.codeHdIn K c13 Pa13 = true)
    (nt13 : K.lookup Pa13 = none)
    (tb13 : h.get? Pa13 = some (PySem.W.tabObj #[]))
    (a14 : PySem.W.nsIn K mainGlobals "law" = some (some (.ref f14)))
    (l14 : K.lookup f14 = some ⟨oc14, od14, .func (PySem.W.fnOf "law" "law" (defArgs s_law) (defBody s_law) (defScope s_law) .none kV14 dc14 pm14 an14 (.ref c14) ct14), sl14⟩)
    (q14 : PySem.W.codeIn K (.ref c14) "law" = true)
    (k14 : PySem.W.keepIn K (.ref f14) = true)
    (lc14 : K.lookup c14 = some ⟨co14, cod14, .fields cvs14, csl14⟩)
    (pa14 : cvs14[11]? = some (.ref Pa14))
    (hd14 : PySem.W.codeHdIn K c14 Pa14 = true)
    (nt14 : K.lookup Pa14 = none)
    (tb14 : h.get? Pa14 = some (PySem.W.tabObj #[]))
    (ne13_14 : Pa13 ≠ Pa14)
    (ac_MOST_SIGNS : PySem.W.nsIn K mainGlobals "MOST_SIGNS" = some (some (.int 4000 tk_MOST_SIGNS)))
    (ac_MOST_FIGURES : PySem.W.nsIn K mainGlobals "MOST_FIGURES" = some (some (.int 9 tk_MOST_FIGURES)))
    (ac_SMALL : PySem.W.nsIn K mainGlobals "SMALL" = some (some (.str "abcdefghijklmnopqrstuvwxyz" tk_SMALL)))
    (ac_FIGURES : PySem.W.nsIn K mainGlobals "FIGURES" = some (some (.str "0123456789" tk_FIGURES)))
    (ac_SIGNS : PySem.W.nsIn K mainGlobals "SIGNS" = some (some (.str "(){}=,:;+-^/" tk_SIGNS)))
    (z_abs : PySem.W.nsIn K mainGlobals "abs" = some none)
    (z_int : PySem.W.nsIn K mainGlobals "int" = some none)
    (z_isinstance : PySem.W.nsIn K mainGlobals "isinstance" = some none)
    (z_len : PySem.W.nsIn K mainGlobals "len" = some none)
    (z_list : PySem.W.nsIn K mainGlobals "list" = some none)
    (z_min : PySem.W.nsIn K mainGlobals "min" = some none)
    (z_range : PySem.W.nsIn K mainGlobals "range" = some none)
    (z_repr : PySem.W.nsIn K mainGlobals "repr" = some none)
    (z_str : PySem.W.nsIn K mainGlobals "str" = some none)
    (z_super : PySem.W.nsIn K mainGlobals "super" = some none)
    (z_tuple : PySem.W.nsIn K mainGlobals "tuple" = some none)
    (z_zip : PySem.W.nsIn K mainGlobals "zip" = some none)
    (g1 : PySem.W.specialIn K (.builtin "object.__class__") "__get__" = some (some (.builtin "getset_descriptor.__get__")))
    (g2 : PySem.W.takesIn K (.builtin "object.__class__") = some true)
    (aC0 : PySem.W.nsIn K mainGlobals "ReadError" = some (some (.ref C0)))
    (aC1 : PySem.W.nsIn K mainGlobals "BadText" = some (some (.ref C1)))
    (xga_0 : PySem.W.findIn K (.ref C0) "__getattribute__" = some (some (.builtin "BaseException.__getattribute__")))
    (xgg_0 : PySem.W.findIn K (.ref C0) "__getattr__" = some none)
    (xex_0 : PySem.W.subIn K (.ref C0) (.type "BaseException") = some true)
    (xhd_0 : PySem.W.hasDictIn K C0 = true)
    (xic_0 : PySem.W.isClsIn K C0 = true)
    (xcl_0 : PySem.W.findIn K (.ref C0) "__class__" = some (some (.builtin "object.__class__")))
    (xmo_0 : PySem.W.mroIn K C0 (.type "object") = some true)
    (xty_0 : PySem.W.typeIn K (.ref C0) = some (.type "type"))
    (xn1_0 : PySem.W.subIn K (.type "NoneType") (.ref C0) = some false)
    (xn2_0 : PySem.W.subIn K (.type "bool") (.ref C0) = some false)
    (xn3_0 : PySem.W.subIn K (.type "int") (.ref C0) = some false)
    (xn4_0 : PySem.W.subIn K (.type "str") (.ref C0) = some false)
    (xn5_0 : PySem.W.subIn K (.type "tuple") (.ref C0) = some false)
    (xn6_0 : PySem.W.subIn K (.type "list") (.ref C0) = some false)
    (xs0_0 : PySem.W.subIn K (.ref C0) (.ref C0) = some true)
    (xs1_0 : PySem.W.subIn K (.ref C0) (.ref C1) = some false)
    (xga_1 : PySem.W.findIn K (.ref C1) "__getattribute__" = some (some (.builtin "BaseException.__getattribute__")))
    (xgg_1 : PySem.W.findIn K (.ref C1) "__getattr__" = some none)
    (xex_1 : PySem.W.subIn K (.ref C1) (.type "BaseException") = some true)
    (xhd_1 : PySem.W.hasDictIn K C1 = true)
    (xic_1 : PySem.W.isClsIn K C1 = true)
    (xcl_1 : PySem.W.findIn K (.ref C1) "__class__" = some (some (.builtin "object.__class__")))
    (xmo_1 : PySem.W.mroIn K C1 (.type "object") = some true)
    (xty_1 : PySem.W.typeIn K (.ref C1) = some (.type "type"))
    (xn1_1 : PySem.W.subIn K (.type "NoneType") (.ref C1) = some false)
    (xn2_1 : PySem.W.subIn K (.type "bool") (.ref C1) = some false)
    (xn3_1 : PySem.W.subIn K (.type "int") (.ref C1) = some false)
    (xn4_1 : PySem.W.subIn K (.type "str") (.ref C1) = some false)
    (xn5_1 : PySem.W.subIn K (.type "tuple") (.ref C1) = some false)
    (xn6_1 : PySem.W.subIn K (.type "list") (.ref C1) = some false)
    (xs0_1 : PySem.W.subIn K (.ref C1) (.ref C0) = some true)
    (xs1_1 : PySem.W.subIn K (.ref C1) (.ref C1) = some true)
    (ecl_1 : K.lookup C1 = some (excClassObj nm1 q1x C1 N1 bs1 bm1 true sn1 sb1 ab1 col1 dd1 e0_1 e1_1 e2_1 e3_1 e5_1 "ValueError.__new__"))
    (erf_1 : PySem.HandSPX.refsVE bm1 = true)
    (esa_1 : PySem.W.findIn K (.ref C1) "__setattr__" = some (some (.builtin "object.__setattr__")))
    (ekp_1 : PySem.W.keepIn K (.ref C1) = true)
    (ein_1 : PySem.W.findIn K (.ref C1) "__init__" = some (some (.ref fI1)))
    (eil_1 : K.lookup fI1 = some ⟨ioc1, iod1, .func (PySem.W.fnX "__init__" iq1 ipar1 [.Expr (.Call (.Attribute (.Call (.Name "super" ip0_1) [] [] ip1_1) "__init__" ip2_1) [.Constant (.str im1) ij1 ip3_1] [] ip4_1) ip5_1, .Assign [.Attribute (.Name "self" iq1_1) "at" iq2_1] (.Name "at" iq3_1) iq4_1] isc1 [("__class__", cc1)] idV1 ikV1 idc1 ipm1 ian1 (.ref cda1) ict1), iosl1⟩)
    (eic_1 : PySem.W.codeIn K (.ref cda1) iq1 = true)
    (eih_1 : (ipar1.posonlyargs ++ ipar1.args).head? = some iar1)
    (eia_1 : iar1.arg = "self")
    (eis_1 : NdefX.nscB ["self", "at", "__class__"] ["self", "at"] ["__class__"] isc1 = true)
    (eig_1 : isc1.names.lookup ("super" : Str) = some .globalImplicit)
    (eip_1 : (ip2_1.endLine == ip4_1.line) = true)
    (ecc_1 : K.lookup cc1 = some ⟨ca1, cb1, .cell (some (.ref C1)), cs1⟩)
    (ecd_1 : K.lookup cda1 = some ⟨da1, db1, .fields dvs1, ds1⟩)
    (ecf_1 : dvs1[2]? = some (.str fil1 ftk1))
    (ecm_1 : ((PySem.Challenge.rw_readalike_k11_whole_tokens.prog.main.file : Str) == fil1) = true)
    (emr_1 : PySem.W.mroIn K C1 (.ref C1) = some true)
    (esu_1 : PySem.W.ks_superIn K C1 C1 "__init__" = some (some (.builtin "ValueError.__init__")))
    (eve_1 : PySem.W.subIn K (.ref C1) (.type "ValueError") = some true)
    (eth_1 : PySem.W.nsIn K cStatics "thirdparty.any" = some none)
    (etp_1 : (PySem.Challenge.rw_readalike_k11_whole_tokens.prog.main.scope.names.lookup ("super" : Str)).isSome = false)
    (eti_1 : PySem.W.typeIn K (.ref fI1) = some (.type "function"))
    (eno_1 : PySem.W.findIn K (.ref C1) "at" = some none)
    (eb_1 : ∀ us : List Value, us.length = 2 → bindArgs (PySem.W.fnX "__init__" iq1 ipar1 [.Expr (.Call (.Attribute (.Call (.Name "super" ip0_1) [] [] ip1_1) "__init__" ip2_1) [.Constant (.str im1) ij1 ip3_1] [] ip4_1) ip5_1, .Assign [.Attribute (.Name "self" iq1_1) "at" iq2_1] (.Name "at" iq3_1) iq4_1] isc1 [("__class__", cc1)] idV1 ikV1 idc1 ipm1 ian1 (.ref cda1) ict1) ⟨us, []⟩ = pure ((["self", "at"] : List Str).zip us))
    : LawG PySem.Challenge.rw_readalike_k11_whole_tokens w K (20 + 4) 63 "script" mg fa h := by
  have e : f14 = fa := Value.ref.inj (Option.some.inj ((PySem.W.mg_of KX G a14).symm.trans hfa))
  subst e
  obtain ⟨fd0, F0⟩ : ∃ fd, Fd K s_end_of_row "end_of_row" ⟨"end_of_row", f0, fd, ["text", "at", "signs"]⟩ cd0 := ⟨_, fd_mk l0 q0 k0⟩
  have B0 : Binds K fd0 ["text", "at", "signs"] [] := F0.binds fun _ _ _ _ _ us hl => match us, hl with | [_, _, _], _ => rfl
  obtain ⟨fd1, F1⟩ : ∃ fd, Fd K s_token_end "token_end" ⟨"token_end", f1, fd, ["text", "at"]⟩ cd1 := ⟨_, fd_mk l1 q1 k1⟩
  have B1 : Binds K fd1 ["text", "at"] [] := F1.binds fun _ _ _ _ _ us hl => match us, hl with | [_, _], _ => rfl
  obtain ⟨fd2, F2⟩ : ∃ fd, Fd K s_reader_tokens "reader_tokens" ⟨"reader_tokens", f2, fd, ["text"]⟩ cd2 := ⟨_, fd_mk l2 q2 k2⟩
  have B2 : Binds K fd2 ["text"] [] := F2.binds fun _ _ _ _ _ us hl => match us, hl with | [_], _ => rfl
  obtain ⟨fd3, F3⟩ : ∃ fd, Fd K s__law_begun "_law_begun" ⟨"_law_begun", f3, fd, ["script"]⟩ cd3 := ⟨_, fd_mk l3 q3 k3⟩
  have B3 : Binds K fd3 ["script"] [] := F3.binds fun _ _ _ _ _ us hl => match us, hl with | [_], _ => rfl
  obtain ⟨fd4, F4⟩ : ∃ fd, Fd K s__law_blend "_law_blend" ⟨"_law_blend", f4, fd, ["draw"]⟩ cd4 := ⟨_, fd_mk l4 q4 k4⟩
  have B4 : Binds K fd4 ["draw"] [] := F4.binds fun _ _ _ _ _ us hl => match us, hl with | [_], _ => rfl
  obtain ⟨fd5, F5⟩ : ∃ fd, Fd K s__law_take "_law_take" ⟨"_law_take", f5, fd, ["draw", "size"]⟩ cd5 := ⟨_, fd_mk l5 q5 k5⟩
  have B5 : Binds K fd5 ["draw", "size"] [] := F5.binds fun _ _ _ _ _ us hl => match us, hl with | [_, _], _ => rfl
  obtain ⟨fd6, F6⟩ : ∃ fd, Fd K s__law_pick "_law_pick" ⟨"_law_pick", f6, fd, ["draw", "some"]⟩ cd6 := ⟨_, fd_mk l6 q6 k6⟩
  have B6 : Binds K fd6 ["draw", "some"] [] := F6.binds fun _ _ _ _ _ us hl => match us, hl with | [_, _], _ => rfl
  obtain ⟨fd7, F7⟩ : ∃ fd, Fd K s__law_caught "_law_caught" ⟨"_law_caught", f7, fd, ["work"]⟩ cd7 := ⟨_, fd_mk l7 q7 k7⟩
  have B7 : Binds K fd7 ["work"] [] := F7.binds fun _ _ _ _ _ us hl => match us, hl with | [_], _ => rfl
  obtain ⟨fd8, F8⟩ : ∃ fd, Fd K s__law_same "_law_same" ⟨"_law_same", f8, fd, ["one", "due"]⟩ cd8 := ⟨_, fd_mk l8 q8 k8⟩
  have B8 : Binds K fd8 ["one", "due"] [] := F8.binds fun _ _ _ _ _ us hl => match us, hl with | [_, _], _ => rfl
  obtain ⟨fd9, F9⟩ : ∃ fd, Fd K s__law_is_bad_text "_law_is_bad_text" ⟨"_law_is_bad_text", f9, fd, ["work", "at"]⟩ cd9 := ⟨_, fd_mk l9 q9 k9⟩
  have B9 : Binds K fd9 ["work", "at"] [] := F9.binds fun _ _ _ _ _ us hl => match us, hl with | [_, _], _ => rfl
  obtain ⟨fd10, F10⟩ : ∃ fd, Fd K s__law_joins "_law_joins" ⟨"_law_joins", f10, fd, ["one", "other"]⟩ cd10 := ⟨_, fd_mk l10 q10 k10⟩
  have B10 : Binds K fd10 ["one", "other"] [] := F10.binds fun _ _ _ _ _ us hl => match us, hl with | [_, _], _ => rfl
  obtain ⟨fd11, F11⟩ : ∃ fd, Fd K s__law_spread "_law_spread" ⟨"_law_spread", f11, fd, ["draw", "tokens"]⟩ cd11 := ⟨_, fd_mk l11 q11 k11⟩
  have B11 : Binds K fd11 ["draw", "tokens"] [] := F11.binds fun _ _ _ _ _ us hl => match us, hl with | [_, _], _ => rfl
  obtain ⟨fd12, F12⟩ : ∃ fd, Fd K s__law_token "_law_token" ⟨"_law_token", f12, fd, ["draw"]⟩ cd12 := ⟨_, fd_mk l12 q12 k12⟩
  have B12 : Binds K fd12 ["draw"] [] := F12.binds fun _ _ _ _ _ us hl => match us, hl with | [_], _ => rfl
  obtain ⟨fd13, F13⟩ : ∃ fd, Fd K s__law_wrong_right "_law_wrong_right" ⟨"_law_wrong_right", f13, fd, ["draw", "tokens"]⟩ (.ref c13) := ⟨_, fd_mk l13 q13 k13⟩
  have B13 : Binds K fd13 ["draw", "tokens"] [] := F13.binds fun _ _ _ _ _ us hl => match us, hl with | [_, _], _ => rfl
  obtain ⟨fd14, F14⟩ : ∃ fd, Fd K s_law "law" ⟨"law", f14, fd, ["script"]⟩ (.ref c14) := ⟨_, fd_mk l14 q14 k14⟩
  have B14 : Binds K fd14 ["script"] [] := F14.binds fun _ _ _ _ _ us hl => match us, hl with | [_], _ => rfl
  let tbl : List (Str × Addr × Addr) := [("_law_wrong_right.<locals>.", c13, Pa13), ("law.<locals>.", c14, Pa14)]
  let Γ : Gam := mkΓ K PySem.Challenge.rw_readalike_k11_whole_tokens.prog mg [(C0, none), (C1, some "at")] Ls [(Pa13, "_law_wrong_right.<locals>.<lambda>"), (Pa14, "law.<locals>.<lambda>")] [⟨"end_of_row", f0, fd0, ["text", "at", "signs"]⟩, ⟨"token_end", f1, fd1, ["text", "at"]⟩, ⟨"reader_tokens", f2, fd2, ["text"]⟩, ⟨"_law_begun", f3, fd3, ["script"]⟩, ⟨"_law_blend", f4, fd4, ["draw"]⟩, ⟨"_law_take", f5, fd5, ["draw", "size"]⟩, ⟨"_law_pick", f6, fd6, ["draw", "some"]⟩, ⟨"_law_caught", f7, fd7, ["work"]⟩, ⟨"_law_same", f8, fd8, ["one", "due"]⟩, ⟨"_law_is_bad_text", f9, fd9, ["work", "at"]⟩, ⟨"_law_joins", f10, fd10, ["one", "other"]⟩, ⟨"_law_spread", f11, fd11, ["draw", "tokens"]⟩, ⟨"_law_token", f12, fd12, ["draw"]⟩, ⟨"_law_wrong_right", f13, fd13, ["draw", "tokens"]⟩, ⟨"law", f14, fd14, ["script"]⟩] (fun q => tbl.lookup q)
  have gok : GOk Γ P := gok_mk ⟨⟨PySem.W.mg_of KX G a0, k0, B0, by dsimp only; decide⟩, ⟨PySem.W.mg_of KX G a1, k1, B1, by dsimp only; decide⟩, ⟨PySem.W.mg_of KX G a2, k2, B2, by dsimp only; decide⟩, ⟨PySem.W.mg_of KX G a3, k3, B3, by dsimp only; decide⟩, ⟨PySem.W.mg_of KX G a4, k4, B4, by dsimp only; decide⟩, ⟨PySem.W.mg_of KX G a5, k5, B5, by dsimp only; decide⟩, ⟨PySem.W.mg_of KX G a6, k6, B6, by dsimp only; decide⟩, ⟨PySem.W.mg_of KX G a7, k7, B7, by dsimp only; decide⟩, ⟨PySem.W.mg_of KX G a8, k8, B8, by dsimp only; decide⟩, ⟨PySem.W.mg_of KX G a9, k9, B9, by dsimp only; decide⟩, ⟨PySem.W.mg_of KX G a10, k10, B10, by dsimp only; decide⟩, ⟨PySem.W.mg_of KX G a11, k11, B11, by dsimp only; decide⟩, ⟨PySem.W.mg_of KX G a12, k12, B12, by dsimp only; decide⟩, ⟨PySem.W.mg_of KX G a13, k13, B13, by dsimp only; decide⟩, ⟨PySem.W.mg_of KX G a14, k14, B14, by dsimp only; decide⟩, trivial⟩ ⟨⟨⟨xga_0, xgg_0, xex_0, xhd_0, xic_0, xcl_0, xmo_0, xty_0, xs0_0, xn1_0, xn2_0, xn3_0, xn4_0, xn5_0, xn6_0⟩, fun f e => by cases e⟩, ⟨⟨xga_1, xgg_1, xex_1, xhd_1, xic_1, xcl_1, xmo_1, xty_1, xs1_1, xn1_1, xn2_1, xn3_1, xn4_1, xn5_1, xn6_1⟩, fun f e => by cases e; exact eno_1⟩, trivial⟩ g1 g2 ⟨⟨fun b e => by cases e; exact xs0_0, fun b e => by cases e; exact xs1_0, trivial⟩, ⟨fun b e => by cases e; exact xs0_1, fun b e => by cases e; exact xs1_1, trivial⟩, trivial⟩
  have T : Txt Γ := {
    f_end_of_row := ⟨_, rfl, rfl⟩
    f_token_end := ⟨_, rfl, rfl⟩
    f_reader_tokens := ⟨_, rfl, rfl⟩
    f__law_begun := ⟨_, rfl, rfl⟩
    f__law_blend := ⟨_, rfl, rfl⟩
    f__law_take := ⟨_, rfl, rfl⟩
    f__law_pick := ⟨_, rfl, rfl⟩
    f__law_caught := ⟨_, rfl, rfl⟩
    f__law_same := ⟨_, rfl, rfl⟩
    f__law_is_bad_text := ⟨_, rfl, rfl⟩
    f__law_joins := ⟨_, rfl, rfl⟩
    f__law_spread := ⟨_, rfl, rfl⟩
    f__law_token := ⟨_, rfl, rfl⟩
    f__law_wrong_right := ⟨_, rfl, rfl⟩
    f_law := ⟨_, rfl, rfl⟩
    h_reader_tokens_0 := ⟨_, rfl, rfl, ⟨fun s us ws _ hl => by
      obtain ⟨oc, od, kV, doc, pm, ct, an, osl, hfd, lk⟩ := F2.ex
      have hfd : fd2 = _ := hfd
      show BindsTo s fd2 _ _
      rw [hfd]
      refine .of_eq ?_
      match us, ws, hl with
      | [u], [], _ => rfl
      | [], [u], _ => rfl, fun r1 r2 => r1.append r2⟩⟩
    c_MOST_SIGNS := ⟨_, .int 4000, PySem.W.mg_of KX G ac_MOST_SIGNS, ⟨_, rfl⟩, fun _ _ _ => .int _⟩
    c_MOST_FIGURES := ⟨_, .int 9, PySem.W.mg_of KX G ac_MOST_FIGURES, ⟨_, rfl⟩, fun _ _ _ => .int _⟩
    c_SMALL := ⟨_, .str "abcdefghijklmnopqrstuvwxyz", PySem.W.mg_of KX G ac_SMALL, ⟨_, rfl⟩, fun _ _ _ => .str _⟩
    c_FIGURES := ⟨_, .str "0123456789", PySem.W.mg_of KX G ac_FIGURES, ⟨_, rfl⟩, fun _ _ _ => .str _⟩
    c_SIGNS := ⟨_, .str "(){}=,:;+-^/", PySem.W.mg_of KX G ac_SIGNS, ⟨_, rfl⟩, fun _ _ _ => .str _⟩
    k_BadText := ⟨_, .ref C1, PySem.W.mg_of KX G aC1, rfl, fun _ _ _ => .cls rfl⟩
    m_abs := PySem.W.mg_none_of KX G z_abs
    m_int := PySem.W.mg_none_of KX G z_int
    m_isinstance := PySem.W.mg_none_of KX G z_isinstance
    m_len := PySem.W.mg_none_of KX G z_len
    m_list := PySem.W.mg_none_of KX G z_list
    m_min := PySem.W.mg_none_of KX G z_min
    m_range := PySem.W.mg_none_of KX G z_range
    m_repr := PySem.W.mg_none_of KX G z_repr
    m_str := PySem.W.mg_none_of KX G z_str
    m_tuple := PySem.W.mg_none_of KX G z_tuple
    m_zip := PySem.W.mg_none_of KX G z_zip
    e_BadText := ⟨C1, fI1, cda1, cc1, _, rfl, ⟨⟨⟨nm1, q1x, N1, bs1, bm1, sn1, sb1, ab1, col1, dd1, e0_1, e1_1, e2_1, e3_1, e5_1, ecl_1, erf_1⟩, esa_1, xex_1, xty_1, ekp_1⟩, ⟨_, _, _, ecc_1⟩, ⟨_, _, _, _, _, _, ecd_1, ecf_1, ecm_1⟩, emr_1, esu_1, eve_1, eth_1, etp_1⟩,
      ⟨⟨_, _, _, _, _, _, _, _, _, _, _, _, _, _, _, _, _, _, _, _, _, _, _, _, _, rfl, eil_1, eic_1, eih_1, eia_1, eis_1, eig_1, eip_1⟩⟩, ein_1, eti_1, .all eb_1, PySem.W.mg_of KX G aC1, PySem.W.mg_none_of KX G z_super, by decide, by decide⟩
    fld_at := fun c hc C fo h => by
      simp only [List.mem_cons, List.not_mem_nil, or_false] at hc
      subst hc
      cases h
      rfl
    l_0 := rfl
    t__law_wrong_right_0 := fun c Pa e => by
      have e : some (c13, Pa13) = some (c, Pa) := e
      cases e
      refine ⟨?_, fun p hp e => ?_⟩
      · show (Pa13, L0.qual) ∈ ([(Pa13, "_law_wrong_right.<locals>.<lambda>"), (Pa14, "law.<locals>.<lambda>")] : List (Addr × Str))
        have e : L0.qual = "_law_wrong_right.<locals>.<lambda>" := rfl
        rw [e]
        simp
      · have hp : p ∈ ([(Pa13, "_law_wrong_right.<locals>.<lambda>"), (Pa14, "law.<locals>.<lambda>")] : List (Addr × Str)) := hp
        have e2 : L0.qual = "_law_wrong_right.<locals>.<lambda>" := rfl
        rw [e2]
        simp only [List.mem_cons, List.not_mem_nil, or_false] at hp
        rcases hp with rfl | rfl
        · rfl
        · exact absurd e (Ne.symm ne13_14)
    l_1 := rfl
    t__law_wrong_right_1 := fun c Pa e => by
      have e : some (c13, Pa13) = some (c, Pa) := e
      cases e
      refine ⟨?_, fun p hp e => ?_⟩
      · show (Pa13, L1.qual) ∈ ([(Pa13, "_law_wrong_right.<locals>.<lambda>"), (Pa14, "law.<locals>.<lambda>")] : List (Addr × Str))
        have e : L1.qual = "_law_wrong_right.<locals>.<lambda>" := rfl
        rw [e]
        simp
      · have hp : p ∈ ([(Pa13, "_law_wrong_right.<locals>.<lambda>"), (Pa14, "law.<locals>.<lambda>")] : List (Addr × Str)) := hp
        have e2 : L1.qual = "_law_wrong_right.<locals>.<lambda>" := rfl
        rw [e2]
        simp only [List.mem_cons, List.not_mem_nil, or_false] at hp
        rcases hp with rfl | rfl
        · rfl
        · exact absurd e (Ne.symm ne13_14)
    l_2 := rfl
    t_law_2 := fun c Pa e => by
      have e : some (c14, Pa14) = some (c, Pa) := e
      cases e
      refine ⟨?_, fun p hp e => ?_⟩
      · show (Pa14, L2.qual) ∈ ([(Pa13, "_law_wrong_right.<locals>.<lambda>"), (Pa14, "law.<locals>.<lambda>")] : List (Addr × Str))
        have e : L2.qual = "law.<locals>.<lambda>" := rfl
        rw [e]
        simp
      · have hp : p ∈ ([(Pa13, "_law_wrong_right.<locals>.<lambda>"), (Pa14, "law.<locals>.<lambda>")] : List (Addr × Str)) := hp
        have e2 : L2.qual = "law.<locals>.<lambda>" := rfl
        rw [e2]
        simp only [List.mem_cons, List.not_mem_nil, or_false] at hp
        rcases hp with rfl | rfl
        · exact absurd e ne13_14
        · rfl
    l_3 := rfl
    t_law_3 := fun c Pa e => by
      have e : some (c14, Pa14) = some (c, Pa) := e
      cases e
      refine ⟨?_, fun p hp e => ?_⟩
      · show (Pa14, L3.qual) ∈ ([(Pa13, "_law_wrong_right.<locals>.<lambda>"), (Pa14, "law.<locals>.<lambda>")] : List (Addr × Str))
        have e : L3.qual = "law.<locals>.<lambda>" := rfl
        rw [e]
        simp
      · have hp : p ∈ ([(Pa13, "_law_wrong_right.<locals>.<lambda>"), (Pa14, "law.<locals>.<lambda>")] : List (Addr × Str)) := hp
        have e2 : L3.qual = "law.<locals>.<lambda>" := rfl
        rw [e2]
        simp only [List.mem_cons, List.not_mem_nil, or_false] at hp
        rcases hp with rfl | rfl
        · exact absurd e ne13_14
        · rfl
    li := rfl
    tr_ReadError := ⟨C0, _, rfl, PySem.W.mg_of KX G aC0⟩
  }
  have LO : ∀ k, LamsOk Γ P 20000 k := fun k => lamsOk T k
  have D : ∀ f I, Γ.fi f = some I → DefC Γ P 20000 f I := fun f I hI => allI_get0 (Pr := fun f I => DefC Γ P 20000 f I) (l := [⟨"end_of_row", f0, fd0, ["text", "at", "signs"]⟩, ⟨"token_end", f1, fd1, ["text", "at"]⟩, ⟨"reader_tokens", f2, fd2, ["text"]⟩, ⟨"_law_begun", f3, fd3, ["script"]⟩, ⟨"_law_blend", f4, fd4, ["draw"]⟩, ⟨"_law_take", f5, fd5, ["draw", "size"]⟩, ⟨"_law_pick", f6, fd6, ["draw", "some"]⟩, ⟨"_law_caught", f7, fd7, ["work"]⟩, ⟨"_law_same", f8, fd8, ["one", "due"]⟩, ⟨"_law_is_bad_text", f9, fd9, ["work", "at"]⟩, ⟨"_law_joins", f10, fd10, ["one", "other"]⟩, ⟨"_law_spread", f11, fd11, ["draw", "tokens"]⟩, ⟨"_law_token", f12, fd12, ["draw"]⟩, ⟨"_law_wrong_right", f13, fd13, ["draw", "tokens"]⟩, ⟨"law", f14, fd14, ["script"]⟩]) ⟨
    Fd.defC (Γ := Γ) (N := N_end_of_row) (fl := false) (m := m_end_of_row) (q := "end_of_row.<locals>.") F0 fs_end_of_row rfl (by decide +kernel) (fun z => nomatch z) (fun k => k_end_of_row T k ),
    Fd.defC (Γ := Γ) (N := N_token_end) (fl := false) (m := m_token_end) (q := "token_end.<locals>.") F1 fs_token_end rfl (by decide +kernel) (fun z => nomatch z) (fun k => k_token_end T k ),
    Fd.defC (Γ := Γ) (N := N_reader_tokens) (fl := false) (m := m_reader_tokens) (q := "reader_tokens.<locals>.") F2 fs_reader_tokens rfl (by decide +kernel) (fun z => nomatch z) (fun k => k_reader_tokens T k ),
    Fd.defC (Γ := Γ) (N := N__law_begun) (fl := false) (m := m__law_begun) (q := "_law_begun.<locals>.") F3 fs__law_begun rfl (by decide +kernel) (fun z => nomatch z) (fun k => k__law_begun T k ),
    Fd.defC (Γ := Γ) (N := N__law_blend) (fl := false) (m := m__law_blend) (q := "_law_blend.<locals>.") F4 fs__law_blend rfl (by decide +kernel) (fun z => nomatch z) (fun k => k__law_blend T k ),
    Fd.defC (Γ := Γ) (N := N__law_take) (fl := false) (m := m__law_take) (q := "_law_take.<locals>.") F5 fs__law_take rfl (by decide +kernel) (fun z => nomatch z) (fun k => k__law_take T k ),
    Fd.defC (Γ := Γ) (N := N__law_pick) (fl := false) (m := m__law_pick) (q := "_law_pick.<locals>.") F6 fs__law_pick rfl (by decide +kernel) (fun z => nomatch z) (fun k => k__law_pick T k ),
    Fd.defC (Γ := Γ) (N := N__law_caught) (fl := false) (m := m__law_caught) (q := "_law_caught.<locals>.") F7 fs__law_caught rfl (by decide +kernel) (fun z => nomatch z) (fun k => k__law_caught T k (LO k)),
    Fd.defC (Γ := Γ) (N := N__law_same) (fl := false) (m := m__law_same) (q := "_law_same.<locals>.") F8 fs__law_same rfl (by decide +kernel) (fun z => nomatch z) (fun k => k__law_same T k ),
    Fd.defC (Γ := Γ) (N := N__law_is_bad_text) (fl := false) (m := m__law_is_bad_text) (q := "_law_is_bad_text.<locals>.") F9 fs__law_is_bad_text rfl (by decide +kernel) (fun z => nomatch z) (fun k => k__law_is_bad_text T k ),
    Fd.defC (Γ := Γ) (N := N__law_joins) (fl := false) (m := m__law_joins) (q := "_law_joins.<locals>.") F10 fs__law_joins rfl (by decide +kernel) (fun z => nomatch z) (fun k => k__law_joins T k ),
    Fd.defC (Γ := Γ) (N := N__law_spread) (fl := false) (m := m__law_spread) (q := "_law_spread.<locals>.") F11 fs__law_spread rfl (by decide +kernel) (fun z => nomatch z) (fun k => k__law_spread T k ),
    Fd.defC (Γ := Γ) (N := N__law_token) (fl := false) (m := m__law_token) (q := "_law_token.<locals>.") F12 fs__law_token rfl (by decide +kernel) (fun z => nomatch z) (fun k => k__law_token T k ),
    Fd.defC (Γ := Γ) (N := N__law_wrong_right) (fl := true) (m := m__law_wrong_right) (q := "_law_wrong_right.<locals>.") F13 fs__law_wrong_right rfl (by decide +kernel) (fun _ => ⟨by decide +kernel, c13, Pa13, rfl, rfl⟩) (fun k => k__law_wrong_right T k ),
    Fd.defC (Γ := Γ) (N := N_law) (fl := true) (m := m_law) (q := "law.<locals>.") F14 fs_law rfl (by decide +kernel) (fun _ => ⟨by decide +kernel, c14, Pa14, rfl, rfl⟩) (fun k => k_law T k ), trivial⟩ hI
  refine ⟨fd14, tbl.map (·.2), spF Γ ((run P 20000 20).1 14), ?_, ?_, ?_, ?_, ?_, ?_⟩
  · intro p hp
    simp only [tbl, List.map_cons, List.map_nil, List.mem_cons, List.not_mem_nil, or_false] at hp
    rcases hp with rfl | rfl
    · exact tb13
    · exact tb14
  · intro p hp
    simp only [tbl, List.map_cons, List.map_nil, List.mem_cons, List.not_mem_nil, or_false] at hp
    rcases hp with rfl | rfl
    · exact nt13
    · exact nt14
  · intro p hp
    simp only [tbl, List.map_cons, List.map_nil, List.mem_cons, List.not_mem_nil, or_false] at hp
    rcases hp with rfl | rfl
    · exact PySem.W.codeHd_of_K KX hd13
    · exact PySem.W.codeHd_of_K KX hd14
  · intro s u
    obtain ⟨oc, od, kV, doc, pm, ct, an, osl, hfd, lk⟩ := F14.ex
    have hfd : fd14 = _ := hfd
    rw [hfd]
    exact .of_eq rfl
  · intro H a ns hn hb hT hS
    obtain ⟨t2, ht⟩ := pure_law ns hn hb
    refine ⟨none, [], [.scr ns], none, .cons (.scr ns hS) .nil, ⟨fun p hp => ?_, trivial⟩, ⟨rfl, fun j ρ p e _ => by cases e⟩, ?_⟩
    · have hp : p ∈ ([(Pa13, "_law_wrong_right.<locals>.<lambda>"), (Pa14, "law.<locals>.<lambda>")] : List (Addr × Str)) := hp
      simp only [List.mem_cons, List.not_mem_nil, or_false] at hp
      rcases hp with rfl | rfl
      · exact ⟨#[], hT (c13, Pa13) (by simp [tbl]), trivial, fun pos cv z => by cases z⟩
      · exact ⟨#[], hT (c14, Pa14) (by simp [tbl]), trivial, fun pos cv z => by cases z⟩
    · rw [ht]
      intro ω' H' _ _ _ v hv
      cases hv
      rfl
  · intro base hK hG TB
    exact proms (n := 20000) gok (fun q c Pa e => TB (c, Pa) (List.mem_map.mpr ⟨(q, c, Pa), PySem.mem_of_lookup e, rfl⟩)) (fun f I hI => .inl (D f I hI)) 20 20 (Nat.le_refl _) 14 _ rfl
end K11
open PySem PySem.W PyProof.Rows
theorem PySem.Challenge.cw_readalike_k11_whole_tokens_holds : PySem.Challenge.rw_readalike_k11_whole_tokens.Holds := by
  w_on; o_law; k_head; (case hw => w_witness2)
  k_fill
  refine Pv.walk_G (l := PySem.Challenge.rw_readalike_k11_whole_tokens) (n := 63) (k := 20 + 4) (x := "script") rfl (by decide) rfl ⟨rfl, by decide, by decide⟩ (fun w h Y => PySem.W.km_in_of Y) ?F
  case F =>
    intro w mg fa h Y KX G hmg
    refine' K11.all_mk KX G hmg ?a0 ?l0 ?q0 ?k0 ?a1 ?l1 ?q1 ?k1 ?a2 ?l2 ?q2 ?k2 ?a3 ?l3 ?q3 ?k3 ?a4 ?l4 ?q4 ?k4 ?a5 ?l5 ?q5 ?k5 ?a6 ?l6 ?q6 ?k6 ?a7 ?l7 ?q7 ?k7 ?a8 ?l8 ?q8 ?k8 ?a9 ?l9 ?q9 ?k9 ?a10 ?l10 ?q10 ?k10 ?a11 ?l11 ?q11 ?k11 ?a12 ?l12 ?q12 ?k12 ?a13 ?l13 ?q13 ?k13 ?lc13 ?pa13 ?hd13 ?nt13 ?tb13 ?a14 ?l14 ?q14 ?k14 ?lc14 ?pa14 ?hd14 ?nt14 ?tb14 ?ne13_14 ?ac_MOST_SIGNS ?ac_MOST_FIGURES ?ac_SMALL ?ac_FIGURES ?ac_SIGNS ?z_abs ?z_int ?z_isinstance ?z_len ?z_list ?z_min ?z_range ?z_repr ?z_str ?z_super ?z_tuple ?z_zip ?g1 ?g2 ?aC0 ?aC1 ?xga_0 ?xgg_0 ?xex_0 ?xhd_0 ?xic_0 ?xcl_0 ?xmo_0 ?xty_0 ?xn1_0 ?xn2_0 ?xn3_0 ?xn4_0 ?xn5_0 ?xn6_0 ?xs0_0 ?xs1_0 ?xga_1 ?xgg_1 ?xex_1 ?xhd_1 ?xic_1 ?xcl_1 ?xmo_1 ?xty_1 ?xn1_1 ?xn2_1 ?xn3_1 ?xn4_1 ?xn5_1 ?xn6_1 ?xs0_1 ?xs1_1 ?ecl_1 ?erf_1 ?esa_1 ?ekp_1 ?ein_1 ?eil_1 ?eic_1 ?eih_1 ?eia_1 ?eis_1 ?eig_1 ?eip_1 ?ecc_1 ?ecd_1 ?ecf_1 ?ecm_1 ?emr_1 ?esu_1 ?eve_1 ?eth_1 ?etp_1 ?eti_1 ?eno_1 ?eb_1
    (case a0 => k_is)
    (case l0 => k_is)
    (case q0 => k_is)
    (case k0 => k_is)
    (case a1 => k_is)
    (case l1 => k_is)
    (case q1 => k_is)
    (case k1 => k_is)
    (case a2 => k_is)
    (case l2 => k_is)
    (case q2 => k_is)
    (case k2 => k_is)
    (case a3 => k_is)
    (case l3 => k_is)
    (case q3 => k_is)
    (case k3 => k_is)
    (case a4 => k_is)
    (case l4 => k_is)
    (case q4 => k_is)
    (case k4 => k_is)
    (case a5 => k_is)
    (case l5 => k_is)
    (case q5 => k_is)
    (case k5 => k_is)
    (case a6 => k_is)
    (case l6 => k_is)
    (case q6 => k_is)
    (case k6 => k_is)
    (case a7 => k_is)
    (case l7 => k_is)
    (case q7 => k_is)
    (case k7 => k_is)
    (case a8 => k_is)
    (case l8 => k_is)
    (case q8 => k_is)
    (case k8 => k_is)
    (case a9 => k_is)
    (case l9 => k_is)
    (case q9 => k_is)
    (case k9 => k_is)
    (case a10 => k_is)
    (case l10 => k_is)
    (case q10 => k_is)
    (case k10 => k_is)
    (case a11 => k_is)
    (case l11 => k_is)
    (case q11 => k_is)
    (case k11 => k_is)
    (case a12 => k_is)
    (case l12 => k_is)
    (case q12 => k_is)
    (case k12 => k_is)
    (case a13 => k_is)
    (case l13 => k_is)
    (case q13 => k_is)
    (case k13 => k_is)
    (case lc13 => k_is)
    (case pa13 => rfl)
    (case hd13 => kernel_rfl)
    (case nt13 => kernel_rfl)
    (case tb13 => exact PySem.W.km_tabs_of Y _ (by decide))
    (case a14 => k_is)
    (case l14 => k_is)
    (case q14 => k_is)
    (case k14 => k_is)
    (case lc14 => k_is)
    (case pa14 => rfl)
    (case hd14 => kernel_rfl)
    (case nt14 => kernel_rfl)
    (case tb14 => exact PySem.W.km_tabs_of Y _ (by decide))
    (case ne13_14 => decide)
    (case ac_MOST_SIGNS => k_is)
    (case ac_MOST_FIGURES => k_is)
    (case ac_SMALL => k_is)
    (case ac_FIGURES => k_is)
    (case ac_SIGNS => k_is)
    (case z_abs => k_is)
    (case z_int => k_is)
    (case z_isinstance => k_is)
    (case z_len => k_is)
    (case z_list => k_is)
    (case z_min => k_is)
    (case z_range => k_is)
    (case z_repr => k_is)
    (case z_str => k_is)
    (case z_super => k_is)
    (case z_tuple => k_is)
    (case z_zip => k_is)
    (case g1 => k_is)
    (case g2 => k_is)
    (case aC0 => k_is)
    (case aC1 => k_is)
    (case xga_0 => k_is)
    (case xgg_0 => k_is)
    (case xex_0 => k_is)
    (case xhd_0 => k_is)
    (case xic_0 => k_is)
    (case xcl_0 => k_is)
    (case xmo_0 => k_is)
    (case xty_0 => k_is)
    (case xn1_0 => k_is)
    (case xn2_0 => k_is)
    (case xn3_0 => k_is)
    (case xn4_0 => k_is)
    (case xn5_0 => k_is)
    (case xn6_0 => k_is)
    (case xs0_0 => k_is)
    (case xs1_0 => k_is)
    (case xga_1 => k_is)
    (case xgg_1 => k_is)
    (case xex_1 => k_is)
    (case xhd_1 => k_is)
    (case xic_1 => k_is)
    (case xcl_1 => k_is)
    (case xmo_1 => k_is)
    (case xty_1 => k_is)
    (case xn1_1 => k_is)
    (case xn2_1 => k_is)
    (case xn3_1 => k_is)
    (case xn4_1 => k_is)
    (case xn5_1 => k_is)
    (case xn6_1 => k_is)
    (case xs0_1 => k_is)
    (case xs1_1 => k_is)
    (case ecl_1 => k_is)
    (case erf_1 => kernel_rfl)
    (case esa_1 => k_is)
    (case ekp_1 => k_is)
    (case ein_1 => k_is)
    (case eil_1 => k_is)
    (case eic_1 => k_is)
    (case eih_1 => rfl)
    (case eia_1 => rfl)
    (case eis_1 => decide +kernel)
    (case eig_1 => decide +kernel)
    (case eip_1 => rfl)
    (case ecc_1 => k_is)
    (case ecd_1 => k_is)
    (case ecf_1 => rfl)
    (case ecm_1 => kernel_rfl)
    (case emr_1 => k_is)
    (case esu_1 => kernel_rfl)
    (case eve_1 => k_is)
    (case eth_1 => k_is)
    (case etp_1 => decide +kernel)
    (case eti_1 => k_is)
    (case eno_1 => k_is)
    (case eb_1 => exact fun us hl => match us, hl with | [_, _], _ => rfl)
end
