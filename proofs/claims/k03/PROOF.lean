import PyProof.Rows.All
import Wide.All
import OpenK.AllK
import Wide.FinOn
import HandS.ExcInit
import HandS.Nested
import HandS.Defaults
import KE.KExcSuper
import KE.KSuperObj
import KE.KExcIs
import HandS.ExcField
import HandS.IsInst
import HandS.ExcIs
import HandS.TupLe
import HandS.SortInts
import HandS.SortRule
import HandS.NamedTupSort
import KE.LtSeq
import KE.LtData
import PyProof.SumWalkG
import PyProof.ListOps
import PyProof.WalkInts
import HandS.ExcValue
import HandS.ForMost
import HandS.Deep
import HandS.Style
import HandS.Conv
import HandS.ExcOwn
import HandS.CallSlots
import HandS.Wide
import HandS.WideBits
import HandS.Lambda
import PyProof.ReprRoads
import HandS.WordsExc
import HandS.HeadEnd
import HandS.HeadHook4
import HandS.EndTab
import HandS.HeadWalk
import HandS.HeadHook1
import HandS.HeadHook2
import HandS.HeadHook3
import PyProof.ReprLen
import PyProof.Rows.ReprOcc
import HandS.Head0
import HandS.Head1
import HandS.Head2
import PySem.Challenge.RW_risingfits_k03_orders_told
set_option Elab.async false
set_option linter.all false
set_option maxRecDepth 100000
set_option maxHeartbeats 0
/-! RXa: the error classes of the program: an own __init__ that calls super().__init__ and keeps one field. -/
namespace RX
open L2 PySem PySem.Spec PyProof.Rows
/-- what the written part tells of a class C, its __init__ at fI, the cell cc -/
structure IniF (prog : Program) (K : PySem.W.Frag) (mg : Str → Option Value) (base : Heap) (C fI cc : Addr) (F : NdefX.NF) : Prop where
  oex : OexC K C
  find : PySem.W.findIn K (.ref C) "__init__" = some (some (.ref fI))
  typ : PySem.W.typeIn K (.ref fI) = some (.type "function")
  val : PySem.W.findIn K (.ref C) "value" = some none
  fn : ∃ oc od osl dV kV doc pm an ct, K.lookup fI = some ⟨oc, od, .func (PySem.W.fnX F.name F.qual F.params F.body F.scope F.cl dV kV doc pm an (.ref F.c) ct), osl⟩ ∧ Binds K (PySem.W.fnX F.name F.qual F.params F.body F.scope F.cl dV kV doc pm an (.ref F.c) ct) ["self", "value"] []
  clo : F.cl = [(("__class__" : Str), cc)]
  code : PySem.W.codeIn K (.ref F.c) F.qual = true
  file : ∃ ccl cdd vs ccs file tf, K.lookup F.c = some ⟨ccl, cdd, .fields vs, ccs⟩ ∧ vs[2]? = some (.str file tf) ∧ ((prog.main.file : Str) == file) = true
  cell : ∃ cl cld csl, K.lookup cc = some ⟨cl, cld, .cell (some (.ref C)), csl⟩
  self : ∃ ar : Arg, (F.params.posonlyargs ++ F.params.args).head? = some ar ∧ ar.arg = "self"
  sub : PySem.W.mroIn K C (.ref C) = some true
  subV : PySem.W.subIn K (.ref C) (.type "ValueError") = some true
  sup : PySem.W.ks_superIn K C C "__init__" = some (some (.builtin "ValueError.__init__"))
  opq : ∃ K1 : PySem.W.Frag, K1.In base ∧ PySem.W.nsIn K1 cStatics "thirdparty.any" = some none
  mgS : mg "super" = none
  top : (prog.main.scope.names.lookup ("super" : Str)).isSome = false
  nsc : NdefX.NScope ["self", "value", "__class__"] ["self", "value"] ["__class__"] F.scope
  kS : F.scope.names.lookup ("super" : Str) = some .globalImplicit
  body : ∃ p0 p1 p2 p3 p4 p5 p6 p7 p8 p9, F.body = [.Expr (.Call (.Attribute (.Call (.Name "super" p0) [] [] p1) "__init__" p2) [.Name "value" p3] [] p4) p5, .Assign [.Attribute (.Name "self" p6) "value" p7] (.Name "value" p8) p9] ∧ (p2.endLine == p4.line) = true
/-- the promise of such an __init__ -/
def spI (C : Addr) : Sp := fun vs H Q _ => ∃ (a : Addr) (v : V), vs = [.ref a, v] ∧ H a = some (exo a C none) ∧ ∀ dx, H dx = none → dx ≠ a → Q .non (upd (upd H dx (exd dx [("value", v)])) a (exo a C (some dx)))
section
variable {prog : Program} {w : World} {A : Around} {E : Value → Shared → Prop} {h : Heap} {g : Array GenState} {d : Drawn} {t : Nat} {os : OsState}
/-- the bound ValueError.__init__ called -/
theorem call_mw {u e C t0 : Addr} {dv : Option Addr} {c2 c3 b4 : Value} {nm qn : Str} {N : Addr} {bs bm : List Value} {hdct : Bool} {sn : List Str} {sub : List Value} {ab : Bool} {col : Option Bool} {dd : Option Addr} {k0 k1 k2 k3 k5 : Option Value} {rest : List Value} {Q : Value → Shared → Prop}
    (hC : h.get? C = some (excClassObj nm qn C N bs bm hdct sn sub ab col dd k0 k1 k2 k3 k5 "ValueError.__new__")) (hu : h.get? u = some (PySem.W.kxs_mw "ValueError.__init__" e)) (he : h.get? e = some (PySem.W.excRec (.ref C) t0 dv c2 c3 b4)) (hz : rest.length ≤ sizeLine)
    (q : ∀ h', (∀ b o, b ≠ e → h.get? b = some o → h'.get? b = some o) → h'.get? e = some (PySem.W.excRec (.ref C) h.objs.size dv c2 c3 b4) → Q .none ⟨h', g, d, t, os⟩) : wpAny (model prog w) A (call (.ref u) rest) Q E ⟨h, g, d, t, os⟩ := by
  refine wpAny_call (codeAny_of_tree (show wpAny _ A.in1 (callAny (.ref u) ⟨rest, []⟩) _ _ _ from ?_))
  unfold callAny
  refine wpAny_bind (wpAny_load hu ?_)
  have m1 : (Value.type "method-wrapper" == Value.type "method" || Value.type "method-wrapper" == Value.type "builtin_function_or_method" || Value.type "method-wrapper" == Value.type "method-wrapper") = true := by decide
  simp only [PySem.W.kxs_mw, m1, if_true]
  refine PySem.W.KFB.if_so (by decide) (wpAny_bind (PySem.W.check_bound_init F.excBase_ValueError.toExcCallFacts hC he rfl (wpAny_bind (wpAny_pure (wpAny_pure ⟨plainId_quiet F.excBase_ValueError.init.plain _, codeAny_builtin F.excBase_ValueError.initEntry ?_⟩)))))
  exact PySem.W.exc_init_tree he hz fun h' k e' _ => q h' k e'
end
section
variable {prog : Program} {w : World} {K : PySem.W.Frag} {mg : Str → Option Value} {base : Heap} {C fI cc : Addr} {F : NdefX.NF} {k : Nat}
/-- the built-in name super, in any such body -/
theorem ld_super {X : Cx} {E : Value → Shared → Prop} {pins : List (Addr × Obj)} {s : Shared} {σ : L2.St} {H : Hp} {Q : Value → Shared → Prop} (I : Inv X pins σ H s) (hg : Gl X "super") (hm : X.mg "super" = none) (q : Q (.type "super") s) :
    wpAny (model X.prog X.w) X.A (loadName X.env "super") Q E s := by
  obtain ⟨mb, b1, b2⟩ := I.mod.blt
  exact PySem.W.ks_loadName_global I.ok.kind hg (Calls.loadGlobal_builtin (by rw [I.ok.glob]; exact I.mod.glob.keeps I.bk) hm (by rw [I.ok.blt]; exact b1.keeps I.bk) ((b2 _ (by decide)).trans (by kernel_rfl)) q)
/-- a local name -/
theorem ld_loc {X : Cx} {E : Value → Shared → Prop} {pins : List (Addr × Obj)} {s : Shared} {σ : L2.St} {H : Hp} {i : Nat} {x : Str} {v : V} {Q : Value → Shared → Prop} (I : Inv X pins σ H s) (h1 : X.N[i]? = some x) (h2 : σ[i]? = some (some v)) (h3 : X.env.kindOf x = some .local)
    (q : ∀ u, RelV v u → Q u s) : wpAny (model X.prog X.w) X.A (loadName X.env x) Q E s := by
  obtain ⟨m, hn, hl⟩ := I.loc
  obtain ⟨u, r, l⟩ := hl i x v h1 h2 (.inl h3)
  rcases l with ⟨_, e⟩ | ⟨z, _⟩
  · exact wpAny_loadName_local I.ok.kind h3 hn e (q u r)
  · rw [h3] at z; rcases z with z | z <;> cases z
theorem at_method {A : Around} {c : Code} {E : Value → Shared → Prop} {s : Shared} {env : PySem.Env} {o e : Expr} {name : Str} {apos pos : Pos} {Q : Value → Shared → Prop} (he : starEach [e] env = [(false, eval e env)]) (hl : (apos.endLine == pos.line) = true)
    (q : PySem.wpAt (model prog w) A c (attributeBase o name env (eval o env)) (fun ov s₁ => ∀ pl, wpAny (model prog w) A (getMethod ov name pl) (fun fx s₂ => wpAny (model prog w) A (callWith pos fx.1 fx.2 (backTo pos [(false, eval e env)]) []) Q E s₂) E s₁) E s) :
    PySem.wpAt (model prog w) A c (eval (.Call (.Attribute o name apos) [e] [] pos) env) Q E s := by
  rw [arm_eval_Call]
  refine PySem.wpAt_bind (ks_wpAt_mono q (fun ov s₁ hov => wpAt_of_wpAny (wpAny_bind (wpAny_standAt ?_))) fun _ _ z => z)
  have hform : methodCallForm ([e].length + ([] : List Keyword).length) (backTo pos (starEach [e] env)) (backToKw pos (keywordEach [] env)) = true := by rw [he]; rfl
  have hpos : methodCallPos true o env apos pos = pure pos := by unfold methodCallPos; simp [hl]
  unfold methodCall
  rw [hform, he]
  refine wpAny_bind (wpAny_holding (wpAny_mono (hov _) (fun fx s₂ hfx => ?_) fun _ _ z => z))
  exact wpAny_bind (wpAny_of_eq hpos hfx)
theorem ini_ok (hI : IniF prog K mg base C fI cc F) : ∃ fd, Binds K fd ["self", "value"] [] ∧ FnOk prog w K mg base (L2.CX prog w) (k + 1) fI fd ["self", "value"] (spI C) := by
  obtain ⟨oc, od, osl, dV, kV, doc, pm, an, ct, lk, hb⟩ := hI.fn
  refine ⟨_, hb, fun vs H Q E ⟨a, v, e, _⟩ => by rw [e]; rfl, fun A outer s H args us vs Q E hr e0 hbind r ⟨a, v, evs, ha, hq⟩ => ?_⟩
  subst evs
  have S := hI.nsc
  have KX : K.In s.heap := e0.mod.kin.keeps fun b o e => (e0.bs b o e).1
  have lim : s.heap.NoLimit := e0.mod.nolimit.keeps fun b o e => (e0.bs b o e).1
  obtain ⟨cl, cld, csl, lkc⟩ := hI.cell
  have Hcc : H cc = none := (e0.bs _ _ (e0.mod.kin _ _ lkc)).2
  have icc : s.heap.IsCell cc (some (.ref C)) := ⟨_, KX _ _ lkc, rfl⟩
  refine codeAny_call_function hr.depth (KX _ _ lk) rfl S.co S.gen rfl (PySem.W.codeRec_of KX hI.code) (hbind _ _ _ _ ?_)
  refine wpAny_newFunctionEnv S.nocell (fun ⟨n, _⟩ hy => S.par n (List.of_mem_zip hy).1) (fun h₁ hns hsb => ⟨lim.fresh _ hsb, ?_⟩) S.kind
  show codeAny _ _ (.func F.body (NdefX.envF F fI s.heap.objs.size)) _ _
  have kp : ∀ b o, s.heap.get? b = some o → h₁.get? b = some o := fun b o e => hsb.extBut b o (Nat.ne_of_lt (Heap.lt_size e)) (Heap.get?_push_of_some _ e)
  have C0 : NdefX.CellsAt F.cl ["__class__"] [none] s.heap H := by
    rw [hI.clo]
    have look : ∀ (y : Str) (c : Addr), ([("__class__", cc)] : List (Str × Addr)).lookup y = some c → y = "__class__" ∧ c = cc := fun y c z => by
      have m := PySem.mem_of_lookup z
      simp at m
      exact m
    refine ⟨rfl, fun y c z => ?_, fun x y c z1 z2 => by rw [(look x c z1).1, (look y c z2).1], fun i y hi => ?_⟩
    · rw [(look y c z).2]; exact ⟨Hcc, _, icc⟩
    · match i, hi with
      | 0, hi =>
        obtain rfl : ("__class__" : Str) = y := by simpa using hi
        exact ⟨cc, by simp [List.lookup], fun v z => by simp at z⟩
      | i + 1, hi => simp at hi
  have rl := r.length
  have I : Inv (NdefX.ncx (L2.CX prog w) prog w K mg base ["self", "value", "__class__"] F fI A outer s H E) [] (NdefX.startF ["self", "value", "__class__"] [.ref a, v] [none]) H { s with heap := h₁, toks := s.toks + ((["self", "value"] : List Str).zip us).length } :=
    NdefX.inv_startN S (by exact hr.hd) e0 rfl r C0 hns kp
  obtain ⟨p0, p1, p2, p3, p4, p5, p6, p7, p8, p9, hbody, hline⟩ := hI.body
  rw [hbody]
  refine ks_codeAny_funcAt ?_
  obtain ⟨ar, har, ear⟩ := hI.self
  obtain ⟨ccl, cdd, cvs, ccs, file, tf, lkd, hvs, hfile⟩ := hI.file
  obtain ⟨nm, q, N, bs, bm, sn, sub, ab, col, dd, k0, k1, k2, k3, k5, lkC, hbm⟩ := hI.oex.cls
  have hcell : (NdefX.envF F fI s.heap.objs.size).cells.lookup ("__class__" : Str) = some cc := by show F.cl.lookup _ = _; rw [hI.clo]; simp [List.lookup]
  obtain ⟨t1, ho⟩ := exo_at I.hok ha
  have KI := I.kIn
  have nC : a ≠ C := fun z => by
    have e1 := KI _ _ lkC
    rw [← z, ho] at e1
    cases Option.some.inj e1
  refine ks_wpAt_execs_cons (ks_wpAt_Expr_any (at_method (by rfl) hline (ks_wpAt_super_base (f := fI) (cc := F.c) (ar := ar) (hI.kS) (S.frk _ (by simp)) (by decide) rfl (KI _ _ lk) rfl har rfl (KI _ _ lkd) rfl hvs hfile hI.top ?_)) (by unfold interactive; rw [show (NdefX.envF F fI s.heap.objs.size).scope.kind = .function from S.kind]; rfl))
  have hki : (NdefX.envF F fI s.heap.objs.size).scope.kind = .function := S.kind
  refine ld_super I hI.kS hI.mgS ⟨rfl, ?_⟩
  refine wpAny_loadName_free S.kind (S.frk _ (by simp)) hcell ⟨_, KI _ _ lkc, rfl⟩ ?_
  rw [ear]
  refine ld_loc (i := 0) (v := .ref a) I rfl rfl (S.par _ (by simp)) fun u0 r0 => ?_
  obtain rfl : u0 = Value.ref a := r0
  refine ks_wpAny_isType_cls (KI _ _ lkC) rfl ⟨rfl, ?_⟩
  refine ks_wpAny_call_super (KI _ _ lkC) rfl ho rfl (fun c z => by cases z) (PySem.W.looks_mroIn KI hI.sub) fun h2 e2 k2' => ?_
  have I2 : Inv _ [] _ H _ := I.kept (t' := s.toks + ((["self", "value"] : List Str).zip us).length) k2'
  have ho2 := k2' _ _ ho
  have K2 : K.In h2 := KI.keeps k2'
  intro pl
  have hIn : PySem.W.Looks (model prog w) h2 (isInstance (.ref a) (.type "ValueError")) true := by
    have LT : PySem.W.Looks (model prog w) h2 (typeOf (.ref a)) (.ref C) := fun A Q E s k q => wpAny_typeOf_ref (k _ _ ho2) q
    exact LT.andThen (PySem.W.looks_subIn K2 hI.subV)
  obtain ⟨K1, K1b, hK1⟩ := hI.opq
  have K1in : K1.In h2 := K1b.keeps fun b o e => k2' _ _ (I.bk b o e)
  have hsup := hI.sup
  unfold PySem.W.ks_superIn at hsup
  obtain ⟨cd, hcd, hal⟩ := Option.bind_eq_some_iff.mp hsup
  refine PySem.W.kxs_getMethod PySem.W.kxs_ValueError e2 (PySem.W.looks_opaque K1in hK1) (l₀ := cd.mro) (fun A Q E s k q => wpAny_bind ((PySem.W.looks_clsIn K2 hcd) A _ E s k (wpAny_pure q))) rfl K2 hal hIn nC (by decide) ?_
  have hu : (h2.push (PySem.W.kxs_mw "ValueError.__init__" a)).get? h2.objs.size = some (PySem.W.kxs_mw "ValueError.__init__" a) := Heap.get?_push_at rfl rfl
  have k3 : ∀ b o, h2.get? b = some o → (h2.push (PySem.W.kxs_mw "ValueError.__init__" a)).get? b = some o := fun b o e => Heap.get?_push_of_some _ e
  have I3 : Inv _ [] _ H _ := I2.kept (t' := s.toks + ((["self", "value"] : List Str).zip us).length + 1) k3
  refine PySem.W.kxs_callWith (i := "ValueError.__init__") (x := a) (by rfl) (Calls.evalArgs_plain (Calls.spliced_cons (wpAny_Name (ld_loc (i := 1) (v := v) I3 rfl rfl (S.par _ (by simp)) fun uv rv => Calls.spliced_nil ⟨hu, ?_⟩))))
  refine call_mw (k3 _ _ (k2' _ _ (KI _ _ lkC))) hu (k3 _ _ ho2) (by rw [sizeLine_eq]; show 1 ≤ _; omega) fun h4 k4 e4 => ?_
  have ho3 := k3 _ _ ho2
  have J := I3.write (t' := s.toks + ((["self", "value"] : List Str).zip us).length + 1) (x := a) (e := a) (o := exo a C none) (by rw [ha]; exact True.intro) (.inl rfl) k4 ⟨_, e4⟩ (exo_ok e4)
  have eu : upd H a (exo a C none) = H := by
    funext b
    by_cases hb : b = a
    · rw [hb, upd_same, ha]
    · rw [upd_ne hb]
  rw [eu] at J
  refine wpAt_of_wpAny ?_
  have vis : ∀ x ∈ (["self", "value"] : List Str), Vis F.scope x := fun x m => .inl (S.par x m)
  have pv : PE (NdefX.ncx (L2.CX prog w) prog w K mg base ["self", "value", "__class__"] F fI A outer s H E) (.Name "value" p8) (tVar 1) := pe_var rfl (vis _ (by simp)) (by decide) (by decide)
  have pS : PE (NdefX.ncx (L2.CX prog w) prog w K mg base ["self", "value", "__class__"] F fI A outer s H E) (.Name "self" p6) (tVar 0) := pe_var rfl (vis _ (by simp)) (by decide) (by decide)
  have run := (pss_cons (ps_ost (p' := p7) (pos := p9) (f := "value") pS pv) pss_nil).run [] _ _ H { nx := fun _ H' => Q .non H', rt := Q } J ⟨v, rfl, .ref a, rfl, a, C, rfl, hI.oex, hI.val, .inl ⟨ha, fun dx h1 h2 => hq dx h1 h2⟩⟩
  refine wpAny_mono run (fun fl s' hs => ?_) fun e s' hs => hs
  cases fl with
  | ret u =>
    obtain ⟨v6, σ6, H6, J6, r6, q6⟩ := hs
    exact ⟨v6, H6, J6.os, J6.bare, J6.base, J6.hok, r6, q6⟩
  | next =>
    obtain ⟨σ6, H6, J6, q6⟩ := hs
    exact ⟨V.non, H6, J6.os, J6.bare, J6.base, J6.hok, rfl, q6⟩
  | brk =>
    obtain ⟨_, _, _, q6⟩ := hs
    exact False.elim q6
  | cont =>
    obtain ⟨_, _, _, q6⟩ := hs
    exact False.elim q6
end
end RX
/-! RXb: a caught error kept in a variable; its field and its class. -/
namespace RX
open L2 PySem PySem.Spec PyProof.Rows
/-- at a: an error of the class cls with the dict d -/
def exk (cls : Value) (d : Option Addr) (a : Addr) : HO := .ext fun h => ∃ (oe : Obj) (vs : Array Value), h.get? a = some oe ∧ Zc cls d oe ∧ oe.data = .fields vs
theorem exk_tup {cls : Value} {d : Option Addr} {a : Addr} {xs : List V} : exk cls d a ≠ .tup xs := fun z => by unfold exk at z; cases z
theorem exk_lst {cls : Value} {d : Option Addr} {a : Addr} {xs : List V} : exk cls d a ≠ .lst xs := fun z => by unfold exk at z; cases z
theorem exk_tbl {cls : Value} {d : Option Addr} {a : Addr} {ps : Array Value} : exk cls d a ≠ .tbl ps := fun z => by unfold exk at z; cases z
section
variable {X : Cx} {pins : List (Addr × Obj)} {σ : L2.St} {H : Hp} {s : Shared} {a : Addr} {oe : Obj} {vs : Array Value} {cls : Value} {d : Option Addr}
/-- a pinned object is tracked from now on -/
theorem track (I : Inv X ((a, oe) :: pins) σ H s) (z : Zc cls d oe) (hd : oe.data = .fields vs) (n0 : X.s_0.heap.get? a = none) (np : ∀ p ∈ X.pn ++ pins, p.1 ≠ a) : Inv X pins σ (upd H a (exk cls d a)) s := by
  obtain ⟨e, na, nL, nF, _⟩ := I.pin (a, oe) (List.mem_append_right _ List.mem_cons_self)
  have nc : ∀ x c, X.env.cells.lookup x = some c → c ≠ a := fun x c h y => by
    obtain ⟨v, o, ho, hdc⟩ := I.cell x c h
    rw [y, show s.heap.get? a = some oe from e] at ho
    rw [← Option.some.inj ho, hd] at hdc
    cases hdc
  refine ⟨I.ok, I.os, I.bare, ⟨I.base.keep, I.base.slot, fun b o h1 h2 h3 => ?_, I.base.there, fun b xs h => ?_, fun b o u h => ?_, fun b ps h => ?_⟩, I.loc, I.cell, ?_, fun x c h => ?_, fun p hp => ?_, fun b o h => ?_, I.len⟩
  · rw [upd_ne (fun y => by rw [y, n0] at h1; cases h1)]; exact I.base.free b o h1 h2 h3
  · have q := I.base.tups b xs h
    rw [upd_ne (ne_of_none q na)]; exact q
  · have q := I.base.frzs b o u h
    rw [upd_ne (ne_of_none q na)]; exact q
  · obtain ⟨m, q⟩ := I.base.tbls b ps h
    exact ⟨m, by rw [upd_ne (ne_of_none q na)]; exact q⟩
  · rw [upd_ne (fun y => nL y.symm)]; exact I.free
  · rw [upd_ne (nc x c h)]; exact I.freeC x c h
  · obtain ⟨q1, q2, q3⟩ := I.pin p (by rcases List.mem_append.mp hp with m | m <;> simp [m])
    exact ⟨q1, by rw [upd_ne (np p hp)]; exact q2, q3⟩
  · by_cases hb : b = a
    · subst hb
      rw [upd_same] at h
      cases h
      exact ⟨⟨oe, vs, e, z, hd⟩, ⟨oe, e⟩, fun _ _ ⟨o, v, q1, q2⟩ k => ⟨o, v, k o q1, q2⟩⟩
    · rw [upd_ne hb] at h
      exact (I.hok b o h).stay (fun _ _ _ q => q) (fun c q => by rw [upd_ne (ne_of_none q na)]; exact q) fun c xs q => by rw [upd_ne (ne_of_none q na)]; exact q
end
/-- what the clause asks: the class is caught, then the variable holds the error -/
def wKeep (K : PySem.W.Frag) (c : Value) (i j : Nat) (D : Ends) : WX := fun cls d σ H => PySem.W.exmOne K cls c = some true ∧ ∀ a, H a = none → D.nx (((σ.set i (some (.ref a))).set j (some (.ref a))).set i none) (upd H a (exk cls d a))
section
variable {X : Cx} {x n m : Str} {c : Value} {i j : Nat} {body : List Stmt} {np np2 mp ap pos pos' : Pos} {tb : WX → TS}
theorem ps_try_keep (hs : X.stack = X.env :: X.outer) (hf : X.env.frame = some X.env.locals) (hex : X.ex = []) (hN : X.N.Nodup) (hi : X.N[i]? = some n) (hln : X.env.kindOf n = some .local) (hj : X.N[j]? = some m) (hlm : X.env.kindOf m = some .local)
    (hnd : (n == ("__debug__" : Str)) = false) (hnc : (n == ("__classdict__" : Str)) = false) (hc : Names X x c)
    (hb : ∀ (W : WX) (pn : List (Addr × Obj)) (xe : Value → Shared → Prop), Takes (X.tr pn xe) W → PassesOwn (model X.prog X.w) X.A X.env xe → PSs (X.tr pn xe) body (tb W)) :
    PS X (.Try body [.ExceptHandler (some (.Name x np)) (some n) [.Assign [.Name m mp] (.Name n np2) ap] pos'] [] [] pos) (fun D σ H => tb (wKeep X.K c i j D) D σ H) := by
  refine ⟨fun pins s σ H D I h => ?_⟩
  have ok := I.ok
  have hfr : X.A.frames = some (X.env :: X.outer) := by rw [ok.frames, hs]
  have back : ∀ (f : Flow) (s1 : Shared), SP (X.tr (X.pn ++ pins) fun e s₁ => wpAny (model X.prog X.w) X.A (noteFrame e X.env) (fun _ s₂ => wpAny (model X.prog X.w) X.A (setFlight e none) (fun _ s₃ => wpAny (model X.prog X.w) X.A
      (handleBy e X.env [.ExceptHandler (some (.Name x np)) (some n) [.Assign [.Name m mp] (.Name n np2) ap] pos']) (SP X pins D) X.xe s₃) X.xe s₂) X.xe s₁) [] D f s1 → SP X pins D f s1 := fun f s1 q => by
    cases f with
    | next => obtain ⟨σ1, H1, J1, q1⟩ := q; exact ⟨σ1, H1, J1.ofTry ok, q1⟩
    | brk => obtain ⟨σ1, H1, J1, q1⟩ := q; exact ⟨σ1, H1, J1.ofTry ok, q1⟩
    | cont => obtain ⟨σ1, H1, J1, q1⟩ := q; exact ⟨σ1, H1, J1.ofTry ok, q1⟩
    | ret u => obtain ⟨v1, σ1, H1, J1, r1, q1⟩ := q; exact ⟨v1, σ1, H1, J1.ofTry ok, r1, q1⟩
  refine wpAny_Try_except (wpAny_mono ((hb (wKeep X.K c i j D) (X.pn ++ pins) _ (fun u s' xx => ?_) PassesOwn.looking).run [] s σ H D (I.toTry _) h) (fun f s1 q => ?_) (fun e s1 he => he))
  · obtain ⟨a, B, sI, pins1, σ1, H1, cls, d, rfl, J0, nb, up, sky, na, os, ag, hm, hyes⟩ := xx
    have J : Inv X pins σ1 H1 sI := J0.ofTry ok
    have sky' : Sky B (X.env :: X.outer) a (Zc cls d) X.env.locals s'.heap := by rw [← hs]; exact sky
    have Ba : B.get? a = none := by
      rcases sky' with q | q | q
      · exact q.2.1
      · exact q.2.1
      · exact q.2.1
    show wpAny (model X.prog X.w) X.A (noteFrame (.ref a) X.env) _ _ _
    refine Sky.land Zc.steady hfr hf sky' fun h3 fl3 up3 => ?_
    have J3 : Inv X pins σ1 H1 { s' with heap := h3 } := J.landed nb fl3.1 (up.trans up3) os ag
    obtain ⟨o3, v3, he3, hz3, hd3⟩ := fl3.there
    have nfr : a ∉ frs (X.env :: X.outer) := fun hin => by
      obtain ⟨_, o', e', hnf⟩ := fl3.2.2.1.mem hin
      rw [he3] at e'
      exact hnf v3 (by rw [← Option.some.inj e']; exact hd3)
    have aI : sI.heap.get? a = none := by
      cases q : sI.heap.get? a with
      | none => rfl
      | some o =>
        have z := nb a o q (by rw [hs]; exact nfr)
        rw [Ba] at z; cases z
    have n0 : X.s_0.heap.get? a = none := by
      cases q : X.s_0.heap.get? a with
      | none => rfl
      | some o =>
        obtain ⟨o', q'⟩ := J.base.there a o q (by rw [hex]; exact fun z => nomatch z)
        rw [aI] at q'; cases q'
    have np' : ∀ p ∈ X.pn ++ pins, p.1 ≠ a := fun p hp y => by
      have q := (J.pin p hp).1
      rw [y, aI] at q; cases q
    have nL : a ≠ X.env.locals := fun y => nfr (List.mem_filterMap.mpr ⟨X.env, List.mem_cons_self, by rw [hf, y]⟩)
    have nF : a ∉ X.fs := fun hin => by
      obtain ⟨e, he, q⟩ := List.mem_filterMap.mp hin
      exact nfr (List.mem_filterMap.mpr ⟨e, List.mem_cons_of_mem _ he, q⟩)
    have S3 := J3.suite he3 hd3 na nL nF
    refine wpAny_handleBy_cons (codeAny_handlers_test ?_) (by intro q; cases q)
    have LT : PySem.W.Looks (model X.prog X.w) h3 (typeOf (.ref a)) cls := fun A Q E s k q => wpAny_typeOf_ref (k _ _ he3) (by rw [hz3.1]; exact q)
    have test : ∀ {Q : Value → Shared → Prop} {E : Value → Shared → Prop}, Q c { s' with heap := h3 } → wpAny (model X.prog X.w) (X.A.mark (some (.ref a))) (eval (.Name x np) X.env) Q E { s' with heap := h3 } := fun {Q E} q => by
      obtain ⟨g1, g2, g3 | ⟨g3, g4, g5⟩⟩ := hc
      · exact ld_glob (X := X.suite a ((a, o3) :: (X.pn ++ pins))) S3 g1 g3 q g2
      · exact ld_blt (X := X.suite a ((a, o3) :: (X.pn ++ pins))) S3 g1 g3 g4 q g5 g2
    refine test ((PySem.W.exm_one (M := model X.prog X.w) J3.kIn LT hm).here (codeAny_handlers_suite_as (HandSPX.lands_againZ fl3 fun h4 fl4 up4 => ?_)))
    have J4 : Inv X pins σ1 H1 { s' with heap := h4 } := J.landed nb fl4.1 ((up.trans up3).trans up4) os ag
    obtain ⟨o4, v4, he4, hz4, hd4⟩ := fl4.there
    have S4 := J4.suite he4 hd4 na nL nF
    refine store_ok (X := X.suite a ((a, o4) :: (X.pn ++ pins))) (v := .ref a) S4 hN hi (.inl hln) rfl (fun s5 S5 => ?_) (.inr hln)
    have il : i < σ1.length := by rw [J.len]; exact (List.getElem?_eq_some_iff.mp hi).1
    have ps1 : PSs (X.suite a ((a, o4) :: (X.pn ++ pins))) [.Assign [.Name m mp] (.Name n np2) ap] _ := pss_cons (ps_set (hN) hj (.inl hlm) (pe_var hi (.inl hln) hnd hnc) (by rfl) (.inr hlm)) pss_nil
    refine wpAny_mono (ps1.run [] s5 _ H1 { nx := fun σ6 H6 => σ6 = (σ1.set i (some (.ref a))).set j (some (.ref a)) ∧ H6 = H1, rt := fun _ _ => False } S5 ⟨.ref a, List.getElem?_set_self il, rfl, rfl⟩) (fun f s6 hsp => ?_) (fun _ _ z => False.elim z)
    cases f with
    | next =>
      obtain ⟨σ6, H6, S6, rfl, rfl⟩ := hsp
      have K6 : Inv X ((a, o4) :: pins) _ _ s6 := ⟨ok, S6.os, S6.bare, S6.base, S6.loc, S6.cell, S6.free, S6.freeC, fun p hp => S6.pin p (List.mem_append_left _ (by
        rcases List.mem_append.mp hp with z | z
        · simp [z]
        · rcases List.mem_cons.mp z with z | z <;> simp [z])), S6.hok, S6.len⟩
      exact gone_ok K6 hN hi hln fun s7 J7 => ⟨_, _, track J7 hz4 hd4 n0 np', hyes a na⟩
    | brk => obtain ⟨_, _, _, z⟩ := hsp; exact False.elim z
    | cont => obtain ⟨_, _, _, z⟩ := hsp; exact False.elim z
    | ret u => obtain ⟨_, _, _, _, _, z⟩ := hsp; exact False.elim z
  · cases f with
    | next => obtain ⟨σ1, H1, J1, q1⟩ := q; exact wpAny_execs_nil ⟨σ1, H1, J1.ofTry ok, q1⟩
    | brk => exact back _ _ q
    | cont => exact back _ _ q
    | ret u => exact back _ _ q
end
end RX
/-! RXc: the field and the class of a kept error; raising one. -/
namespace RX
open L2 PySem PySem.Spec PyProof.Rows
section
variable {X : Cx} {e : Expr} {te : TE} {pos : Pos} {n : Str}
/-- the heap's instance of a kept error -/
theorem inst_at {pins : List (Addr × Obj)} {σ : L2.St} {H : Hp} {s : Shared} {a C dx : Addr} {fs : List (Str × V)} (I : Inv X pins σ H s) (h1 : H a = some (exk (.ref C) (some dx) a)) (h2 : H dx = some (.xd fs)) :
    ∃ (oe : Obj) (od : Obj) (mA : Str → Option Value), PySem.W.InstAt s.heap a oe C (some od) ∧ s.heap.Ns1 dx mA ∧ s.heap.get? dx = some od ∧ ∀ f, RelO (fs.lookup f) (mA f) := by
  have q1 : ObjOk X.prog X.w H s.heap a (.ext fun h => ∃ (oe : Obj) (vs : Array Value), h.get? a = some oe ∧ Zc (.ref C) (some dx) oe ∧ oe.data = .fields vs) := I.hok a _ h1
  obtain ⟨⟨oe, vs, e1, z, e2⟩, _⟩ := q1
  have q2 : ObjOk X.prog X.w H s.heap dx (.xd fs) := I.hok dx _ h2
  obtain ⟨mA, hns, hr⟩ := q2
  obtain ⟨od, es, ep, ho, rest⟩ := id hns
  exact ⟨oe, od, mA, ⟨e1, z.1, by unfold PySem.W.notCls; rw [e2] <;> rfl, by rw [z.2]; exact ho⟩, hns, ho, hr⟩
/-- e.n of a kept error -/
def tXk (K : PySem.W.Frag) (n : Str) (te : TE) : TE := fun σ H Q => te σ H fun x H1 => ∃ (a C dx : Addr) (fs : List (Str × V)) (v : V), x = .ref a ∧ H1 a = some (exk (.ref C) (some dx) a) ∧ XfC K C ∧ PySem.W.findIn K (.ref C) n = some none ∧ H1 dx = some (.xd fs) ∧ fs.lookup n = some v ∧ Q v H1
theorem pe_xk (he : PE X e te) (hb : attributeBase e n X.env (eval e X.env) = eval e X.env := by rfl) : PE X (.Attribute e n pos) (tXk X.K n te) := by
  refine ⟨fun pins s σ H Q I h => attr_of hb (thn (he.run pins s σ H _ I h) fun u s1 hh => ?_)⟩
  obtain ⟨x, H1, I1, rx, a, C, dx, fs, v, rfl, ha, T, hno, hd, hl, q⟩ := hh
  obtain rfl : u = Value.ref a := rx
  obtain ⟨oe, od, mA, J, hns, ho, hr⟩ := inst_at I1 ha hd
  obtain ⟨od2, ho2, l2⟩ := lookIn_ns hns
  rw [ho] at ho2
  obtain rfl := Option.some.inj ho2
  obtain ⟨u2, hu, ru⟩ := RelO.some_of (v := v) (o := mA n) (by rw [← hl]; exact hr n)
  exact HandSPX.exc_get I1.kIn J T.ga T.gg T.exC (PySem.W.findObj_own T.hdC hno rfl (by rw [l2, hu])) (handed_of ru) ⟨v, H1, I1.tok _, ru, q⟩
/-- isinstance(e, c) of a kept error -/
def rIsK (K : PySem.W.Frag) : List V → Hp → VK → Prop := fun xs H Q => ∃ (a C dx : Addr) (fs : List (Str × V)) (c : V) (cv : Value) (b : Bool), xs = [.ref a, c] ∧ H a = some (exk (.ref C) (some dx) a) ∧ H dx = some (.xd fs) ∧ ExcC K C ∧ (∀ u, RelV c u → u = cv) ∧ PySem.W.kitOne K (.ref C) cv = some b ∧ Q (.bl b) H
theorem call_isK : CallR X (.builtin "isinstance") (rIsK X.K) := by
  intro pins s σ H xs us Q I r h
  obtain ⟨a, C, dx, fs, c, cv, b, rfl, ha, hd, T, hcv, e, q⟩ := h
  match us, r with
  | [u1, u2], .cons r1 (.cons r2 .nil) =>
    obtain rfl : u1 = Value.ref a := r1
    obtain rfl := hcv _ r2
    obtain ⟨oe, od, mA, J, _⟩ := inst_at I ha hd
    have hcl : (PySem.W.clsIn X.K C).isSome = true := by obtain ⟨cd, h1, _⟩ := PySem.W.any_some T.hd; rw [h1]; rfl
    exact PySem.W.kia_one (PySem.W.kitx_exc hcl T.hg T.hk T.hs T.ha T.hn T.ht T.hm) I.kIn J e (fun z => nomatch z) fun tk => ⟨.bl b, H, I.kept (t' := tk) fun _ _ z => z, rfl, q⟩
end
section
variable {prog : Program} {w : World} {X : Cx} {W : WX} {x : Str} {C fI cc : Addr} {F : NdefX.NF} {e : Expr} {te : TE} {p pos pos' : Pos} {k : Nat}
/-- raise C(e) -/
def tRaise (C : Addr) (W : WX) (te : TE) : TS := fun _ σ H => tMkO C (spI C) [] (tCons te tNil) σ H fun cls d H' => W cls d σ H'
theorem del_back {H1 : Hp} {a C dx : Addr} {o1 o2 : HO} {fs : List (Str × V)} (n1 : H1 a = none) (n2 : dx ≠ a) : upd (del (upd (upd (upd H1 a o1) dx o2) a (exo a C (some dx))) a) dx (.xd fs) = upd H1 dx (.xd fs) := by
  funext b
  by_cases h1 : b = dx
  · rw [h1, upd_same, upd_same]
  · rw [upd_ne h1, upd_ne h1]
    by_cases h2 : b = a
    · rw [h2, del_same, n1]
    · rw [del_ne h2, upd_ne h2, upd_ne h1, upd_ne h2]
theorem raise_point {H1 : Hp} {v : V} {W' : XK} (h : ∀ dx, H1 dx = none → W' (.ref C) (some dx) (upd H1 dx (.xd [("value", v)]))) :
    [v].length ≤ 1000 ∧ ∀ a, H1 a = none → spI C (.ref a :: ([v] ++ [])) (upd H1 a (exo a C none))
      (fun v H2 => v = .non ∧ ∃ (d : Addr) (fs : List (Str × V)), H2 a = some (exo a C (some d)) ∧ H2 d = some (exd d fs) ∧ H1 d = none ∧ W' (.ref C) (some d) (upd (del H2 a) d (.xd fs))) (fun _ _ _ => False) := by
  refine ⟨by simp, fun a na => ⟨a, v, rfl, upd_same, fun dx nd ne => ⟨rfl, dx, _, upd_same, by rw [upd_ne ne, upd_same], ?_, ?_⟩⟩⟩
  · rw [upd_ne ne] at nd; exact nd
  · rw [del_back na ne]
    exact h dx (by rw [upd_ne ne] at nd; exact nd)
theorem ps_raise_own (hI : IniF X.prog X.K X.mg X.base C fI cc F) (tk : Takes X W) (hc : X.calm = true) (hr : Room 2 X.A) (hx : Passes (L2.CX X.prog X.w) X (fun _ _ _ => False)) (hg : Gl X x) (hm : X.mg x = some (.ref C)) (hdb : (x == ("__debug__" : Str)) = false) (he : PE X e te)
    (hst : starEach [e] X.env = [(false, eval e X.env)]) : PS X (.Raise (some (.Call (.Name x p) [e] [] pos)) none pos') (tRaise C W te) := by
  obtain ⟨fd, hb, F1⟩ := ini_ok (w := X.w) (k := 0) hI
  exact ps_raise hc tk (pmk_oex (p := p) (pos := pos) (dvs := []) hI.oex hI.find hI.typ F1 hr hb .nil hx hg hm (pa_cons he pa_nil hst) hdb hst)
end
end RX
/-! RXd: the facts of an error class, as one Bool over what the head has laid. -/
namespace RX
open L2 PySem PySem.Spec PyProof.Rows
theorem bb {a b : Bool} (h : (a && b) = true) : a = true ∧ b = true := Bool.and_eq_true_iff.mp h
def clsB (K : PySem.W.Frag) (C : Addr) : Bool := match K.lookup C with
  | some ⟨.type t, _, .cls cd, sl⟩ => decide (t = "type") && !cd.hasDel && cd.hasDict && (match cd.mro, sl.toList with
    | .ref C' :: bm, [_, _, _, _, some (.builtin n), _] => decide (C' = C) && decide (n = "ValueError.__new__") && PySem.HandSPX.refsVE bm
    | _, _ => false)
  | _ => false
theorem clsB_ok {K : PySem.W.Frag} {C : Addr} (h : clsB K C = true) : ∃ nm q N bs bm sn sub ab col dd k0 k1 k2 k3 k5, K.lookup C = some (excClassObj nm q C N bs bm true sn sub ab col dd k0 k1 k2 k3 k5 "ValueError.__new__") ∧ PySem.HandSPX.refsVE bm = true := by
  unfold clsB at h
  split at h
  · rename_i t dd cd sl hl
    obtain ⟨h1, h2⟩ := bb h
    obtain ⟨h3, h4⟩ := bb h1
    obtain ⟨h5, h6⟩ := bb h3
    split at h2
    · rename_i C' bm k0 k1 k2 k3 n k5 hm hs
      obtain ⟨g1, g2⟩ := bb h2
      obtain ⟨g3, g4⟩ := bb g1
      obtain rfl := of_decide_eq_true g3
      obtain rfl := of_decide_eq_true g4
      obtain rfl := of_decide_eq_true h5
      obtain ⟨nm, bs, mro, ns, q, hd, sn, sub, ab, col, del⟩ := cd
      dsimp only at hm h4 h6
      subst hm
      obtain rfl : hd = true := h4
      obtain rfl : del = false := by simpa using h6
      refine ⟨nm, q, ns, bs, bm, sn, sub, ab, col, dd, k0, k1, k2, k3, k5, ?_, g2⟩
      rw [hl]
      have : sl = #[k0, k1, k2, k3, some (.builtin "ValueError.__new__"), k5] := Array.toList_inj.mp (by rw [hs])
      rw [this]
    · cases h2
  · cases h
def fnB (fd : FuncData) : Bool := decide (fd.globals = mainGlobals) && decide (fd.builtins = builtinsNs) && (match fd.params with
  | ⟨[], [a0, a1], none, [], [], none, _⟩ => a0.arg == "self" && a1.arg == "value"
  | _ => false)
def dflB (K : PySem.W.Frag) (fd : FuncData) : Bool := match fd.defaults with
  | .ref T => (match K.lookup T with
    | some ⟨_, _, .seq its _, _⟩ => decide (its.toList = [.none])
    | _ => false)
  | _ => false
def codB (prog : Program) (K : PySem.W.Frag) (fd : FuncData) : Bool := PySem.W.codeIn K fd.code fd.qualname && (match fd.code with
  | .ref c => (match K.lookup c with
    | some ⟨_, _, .fields vs, _⟩ => (match (vs[2]? : Option Value) with
      | some (Value.str file _) => (prog.main.file : Str) == file
      | _ => false)
    | _ => false)
  | _ => false)
def cloB (K : PySem.W.Frag) (C : Addr) (fd : FuncData) : Bool := match fd.closure with
  | [(y, cc)] => y == "__class__" && (match K.lookup cc with
    | some ⟨_, _, .cell (some (.ref D)), _⟩ => decide (D = C)
    | _ => false)
  | _ => false
def bodB : FuncBody → Bool
  | .stmts [.Expr (.Call (.Attribute (.Call (.Name s _) [] [] _) m p2) [.Name v _] [] p4) _, .Assign [.Attribute (.Name z _) f _] (.Name v2 _) _] =>
    s == "super" && m == "__init__" && v == "value" && z == "self" && f == "value" && v2 == "value" && p2.endLine == p4.line
  | _ => false
theorem bodB_ok {b : FuncBody} (h : bodB b = true) : ∃ p0 p1 p2 p3 p4 p5 p6 p7 p8 p9, b = .stmts [.Expr (.Call (.Attribute (.Call (.Name "super" p0) [] [] p1) "__init__" p2) [.Name "value" p3] [] p4) p5, .Assign [.Attribute (.Name "self" p6) "value" p7] (.Name "value" p8) p9] ∧ (p2.endLine == p4.line) = true := by
  unfold bodB at h
  split at h
  · simp only [Bool.and_eq_true, beq_iff_eq] at h
    obtain ⟨⟨⟨⟨⟨⟨w1, w2⟩, w3⟩, w4⟩, w5⟩, w6⟩, w7⟩ := h
    subst w1 w2 w3 w4 w5 w6
    exact ⟨_, _, _, _, _, _, _, _, _, _, rfl, beq_iff_eq.mpr w7⟩
  · cases h
def iniB (prog : Program) (K : PySem.W.Frag) (C : Addr) : Bool :=
  clsB K C && decide (PySem.W.findIn K (.ref C) "__setattr__" = some (some (.builtin "object.__setattr__"))) && decide (PySem.W.subIn K (.ref C) (.type "BaseException") = some true) && decide (PySem.W.typeIn K (.ref C) = some (.type "type")) && PySem.W.keepIn K (.ref C) &&
  decide (PySem.W.findIn K (.ref C) "value" = some none) && decide (PySem.W.mroIn K C (.ref C) = some true) && decide (PySem.W.subIn K (.ref C) (.type "ValueError") = some true) && decide (PySem.W.ks_superIn K C C "__init__" = some (some (.builtin "ValueError.__init__"))) &&
  (match PySem.W.findIn K (.ref C) "__init__" with
  | some (some (.ref fI)) => decide (PySem.W.typeIn K (.ref fI) = some (.type "function")) && (match K.lookup fI with
    | some ⟨_, _, .func fd, _⟩ => fnB fd && dflB K fd && codB prog K fd && cloB K C fd && bodB fd.body && NdefX.nscB ["self", "value", "__class__"] ["self", "value"] ["__class__"] fd.scope && decide (fd.scope.names.lookup ("super" : Str) = some .globalImplicit)
    | _ => false)
  | _ => false)
theorem iniB_ok {prog : Program} {K : PySem.W.Frag} {mg : Str → Option Value} {base : Heap} {C : Addr} (h : iniB prog K C = true) (hm : mg "super" = none) (ht : (prog.main.scope.names.lookup ("super" : Str)).isSome = false) (ho : ∃ K1 : PySem.W.Frag, K1.In base ∧ PySem.W.nsIn K1 cStatics "thirdparty.any" = some none) :
    ∃ fI cc F, IniF prog K mg base C fI cc F := by
  unfold iniB at h
  obtain ⟨h, h10⟩ := bb h
  obtain ⟨h, h9⟩ := bb h
  obtain ⟨h, h8⟩ := bb h
  obtain ⟨h, h7⟩ := bb h
  obtain ⟨h, h6⟩ := bb h
  obtain ⟨h, h5⟩ := bb h
  obtain ⟨h, h4⟩ := bb h
  obtain ⟨h, h3⟩ := bb h
  obtain ⟨h1, h2⟩ := bb h
  split at h10
  · rename_i fI hfI
    obtain ⟨t1, t2⟩ := bb h10
    split at t2
    · rename_i oc od fd osl lk
      obtain ⟨t2, t8⟩ := bb t2
      obtain ⟨t2, t7⟩ := bb t2
      obtain ⟨t2, t6⟩ := bb t2
      obtain ⟨t2, t5⟩ := bb t2
      obtain ⟨t2, t4⟩ := bb t2
      obtain ⟨t2, t3⟩ := bb t2
      obtain ⟨fn, qn, params, body, scope, gl, clo, dfl, kwd, doc, pm, an, code, ct, bl⟩ := fd
      unfold fnB at t2
      obtain ⟨t2, u3⟩ := bb t2
      obtain ⟨u1, u2⟩ := bb t2
      obtain rfl : gl = mainGlobals := of_decide_eq_true u1
      obtain rfl : bl = builtinsNs := of_decide_eq_true u2
      split at u3
      · rename_i a0 a1 dx hp
        obtain rfl : params = _ := hp
        obtain ⟨n0, x0, y0⟩ := a0
        obtain ⟨n1, x1, y1⟩ := a1
        obtain ⟨v1, v2⟩ := bb u3
        obtain rfl : n0 = "self" := eq_of_beq v1
        obtain rfl : n1 = "value" := eq_of_beq v2
        obtain ⟨p0, p1, p2, p3, p4, p5, p6, p7, p8, p9, hb1, hb2⟩ := bodB_ok t6
        obtain rfl : body = _ := hb1
        · skip
          unfold codB at t4
          obtain ⟨c1, c2⟩ := bb t4
          split at c2
          · rename_i c hc
            obtain rfl : code = .ref c := hc
            unfold cloB at t5
            split at t5
            · rename_i y cc hcl
              obtain rfl : clo = [(y, cc)] := hcl
              obtain ⟨d1, d2⟩ := bb t5
              obtain rfl : y = "__class__" := eq_of_beq d1
              unfold dflB at t3
              split at t3
              · rename_i T hT
                obtain rfl : dfl = .ref T := hT
                split at t3
                · rename_i qc qd its qn' qs lT
                  have ei : its.toList = [.none] := of_decide_eq_true t3
                  split at c2
                  · rename_i ccl cdd cvs ccs lc
                    split at c2
                    · rename_i file tf hv
                      split at d2
                      · rename_i cl cld D csl lcc
                        obtain rfl : D = C := of_decide_eq_true d2
                        refine ⟨fI, cc, ⟨fn, qn, ⟨[], [⟨"self", x0, y0⟩, ⟨"value", x1, y1⟩], none, [], [], none, dx⟩, _, scope, [("__class__", cc)], c⟩, ⟨clsB_ok h1, of_decide_eq_true h2, of_decide_eq_true h3, of_decide_eq_true h4, h5⟩, hfI, of_decide_eq_true t1, of_decide_eq_true h6, ⟨oc, od, osl, .ref T, kwd, doc, pm, an, ct, lk, ?_⟩, rfl, c1, ⟨ccl, cdd, cvs, ccs, file, tf, lc, hv, c2⟩, ⟨cl, cld, csl, lcc⟩, ⟨⟨"self", x0, y0⟩, rfl, rfl⟩,
                          of_decide_eq_true h7, of_decide_eq_true h8, of_decide_eq_true h9, ho, hm, ht, NdefX.nscope_by t7, of_decide_eq_true t8, ⟨_, _, _, _, _, _, _, _, _, _, rfl, hb2⟩⟩
                        intro s us hK hl
                        rw [List.append_nil] at hl ⊢
                        match us, hl with
                        | [u1, u2], _ =>
                          obtain ⟨il⟩ := its
                          obtain rfl : il = [.none] := ei
                          exact BindsTo.of_defaults (T := T) rfl (hK _ _ lT) rfl rfl rfl
                      · cases d2
                    · cases c2
                  · cases c2
                · cases t3
              · cases t3
            · cases t5
          · cases c2
      · cases u3
    · cases t2
  · cases h10
end RX
/-! RXe: >= of pairs of ints. -/
namespace RX
open L2 PySem PySem.Spec PyProof.Rows
def geP (i j k l : Int) : Bool := if i = k then decide (l ≤ j) else decide (k ≤ i)
def rGeP (K : PySem.W.Frag) : R2 := fun x y H Q => ∃ (a b : Addr) (i j k l : Int), x = .ref a ∧ y = .ref b ∧ SqT K H a [V.int i, V.int j] ∧ SqT K H b [V.int k, V.int l] ∧ Q (.bl (geP i j k l)) H
theorem two {i j : Int} {its : List Value} (r : Vals [V.int i, V.int j] its) : ∃ v1 v2, its = [v1, v2] ∧ (∃ t, v1 = .int i t) ∧ ∃ t, v2 = .int j t := by
  cases r with
  | cons q1 r =>
    cases r with
    | cons q2 r =>
      cases r
      exact ⟨_, _, rfl, q1, q2⟩
theorem lex2 {e0 e1 r0 r1 : Bool} : Ob.lexAt (fun n => match n with | 0 => e0 | _ => e1) (fun n => match n with | 0 => r0 | _ => r1) true 0 2 = if e0 = true then (if e1 = true then true else r1) else r0 := rfl
theorem op_geP {X : Cx} (hu : X.A.units < cLine) : OpR X (compareOp .GtE) (rGeP X.K) := by
  intro pins s σ H x y v u Q I rx ry h
  obtain ⟨a, b, i, j, k, l, rfl, rfl, ha, hb, q⟩ := h
  obtain rfl : v = Value.ref a := rx
  obtain rfl : u = Value.ref b := ry
  obtain ⟨its, r1, p1, _⟩ := I.tuple ha
  obtain ⟨its2, r2, p2, _⟩ := I.tuple hb
  obtain ⟨v1, v2, rfl, ⟨t1, rfl⟩, ⟨t2, rfl⟩⟩ := two r1
  obtain ⟨u1, u2, rfl, ⟨t3, rfl⟩, ⟨t4, rfl⟩⟩ := two r2
  · skip
    have eqi : ∀ (m n : Int) (t t' : Tok), SeqAt.EqAt X.A.in1 s (.int m t) (.int n t') (decide (m = n)) := fun m n t t' => by
      have z : (m == n) = decide (m = n) := by
        by_cases q : m = n
        · rw [decide_eq_true q]; exact beq_iff_eq.mpr q
        · rw [decide_eq_false q]; exact beq_eq_false_iff_ne.mpr q
      rw [← z]
      exact SeqAt.EqAt.int_int _ _ _ _
    have R := Ob.RcOp.tuples_ge (A := X.A) (s := s) (e := fun n => match n with | 0 => decide (i = k) | _ => decide (j = l)) (r := fun n => match n with | 0 => decide (k ≤ i) | _ => decide (l ≤ j)) p1 p2 hu (fun n h1 h2 => by
      match n, h1, h2 with
      | 0, _, _ => exact eqi _ _ _ _
      | 1, _, _ => exact eqi _ _ _ _
      | n + 2, h1, _ => (simp at h1; omega)) (fun n h1 h2 _ => by
      match n, h1, h2 with
      | 0, _, _ => exact Ob.RcOp.ge_int _ _ _ _
      | 1, _, _ => exact Ob.RcOp.ge_int _ _ _ _
      | n + 2, h1, _ => (simp at h1; omega))
    have e : (if decide (i = k) = true then (if decide (j = l) = true then true else decide (l ≤ j)) else decide (k ≤ i)) = geP i j k l := by
      unfold geP
      by_cases h1 : i = k
      · by_cases h2 : j = l
        · simp [h1, h2]
        · simp [h1, h2]
      · simp [h1]
    refine R X.prog X.w X.xe (EP X pins σ Q) ⟨.bl _, H, I, ?_, q⟩
    rw [← e]
    exact congrArg Value.bool lex2
end RX
/-! RXf: sorted ints and pairs of ints, as lists. -/
namespace RX
open PySem L2
theorem perm_uniq {α : Type} {le : α → α → Prop} (anti : ∀ a b, le a b → le b a → a = b) : ∀ {xs ys : List α}, xs.Perm ys → xs.Pairwise le → ys.Pairwise le → xs = ys
  | [], ys, p, _, _ => by rw [List.nil_perm.mp p]
  | x :: xs, ys, p, h1, h2 => by
    cases ys with
    | nil => exact absurd (List.perm_nil.mp p) (by simp)
    | cons y ys =>
      rw [List.pairwise_cons] at h1 h2
      have e : x = y := by
        have mx : x ∈ y :: ys := p.subset List.mem_cons_self
        have my : y ∈ x :: xs := p.symm.subset List.mem_cons_self
        rcases List.mem_cons.mp mx with e | mx
        · exact e
        · rcases List.mem_cons.mp my with e | my
          · exact e.symm
          · exact anti x y (h1.1 y my) (h2.1 x mx)
      subst e
      rw [perm_uniq anti p.cons_inv h1.2 h2.2]
/-- sorting that the kernel runs -/
def insG {α : Type} (le : α → α → Bool) (x : α) : List α → List α
  | [] => [x]
  | y :: ys => if le x y then x :: y :: ys else y :: insG le x ys
def sortG {α : Type} (le : α → α → Bool) : List α → List α
  | [] => []
  | x :: xs => insG le x (sortG le xs)
theorem insG_perm {α : Type} (le : α → α → Bool) (x : α) : ∀ ys : List α, (insG le x ys).Perm (x :: ys)
  | [] => .refl _
  | y :: ys => by
    unfold insG
    split
    · exact .refl _
    · exact (List.Perm.cons y (insG_perm le x ys)).trans (.swap x y ys)
theorem sortG_perm {α : Type} (xs : List α) (le : α → α → Bool) : (sortG le xs).Perm xs := by
  induction xs with
  | nil => exact .refl _
  | cons x xs ih => exact (insG_perm le x _).trans (ih.cons x)
theorem insG_pw {α : Type} {le : α → α → Bool} (tr : ∀ a b c, le a b = true → le b c = true → le a c = true) (tot : ∀ a b, (le a b || le b a) = true) (x : α) : ∀ ys : List α, ys.Pairwise (fun a b => le a b = true) → (insG le x ys).Pairwise fun a b => le a b = true
  | [], _ => List.pairwise_singleton _ _
  | y :: ys, h => by
    unfold insG
    rw [List.pairwise_cons] at h
    split
    · rename_i c
      rw [List.pairwise_cons, List.pairwise_cons]
      refine ⟨fun z hz => ?_, h⟩
      rcases List.mem_cons.mp hz with rfl | hz
      · exact c
      · exact tr _ _ _ c (h.1 z hz)
    · rename_i c
      rw [List.pairwise_cons]
      refine ⟨fun z hz => ?_, insG_pw tr tot x ys h.2⟩
      rcases List.mem_cons.mp ((insG_perm le x ys).mem_iff.mp hz) with rfl | hz
      · have := tot z y
        rw [Bool.or_eq_true] at this
        exact this.resolve_left c
      · exact h.1 z hz
theorem sortG_pw {α : Type} {le : α → α → Bool} (tr : ∀ a b c, le a b = true → le b c = true → le a c = true) (tot : ∀ a b, (le a b || le b a) = true) (xs : List α) : (sortG le xs).Pairwise fun a b => le a b = true := by
  induction xs with
  | nil => exact List.Pairwise.nil
  | cons x xs ih => exact insG_pw tr tot x _ ih
def sortI (ns : List Int) : List Int := sortG (fun a b => decide (a ≤ b)) ns
theorem sortI_perm (ns : List Int) : (sortI ns).Perm ns := sortG_perm ns _
theorem sortI_pw (ns : List Int) : (sortI ns).Pairwise (· ≤ ·) := by
  have h := sortG_pw (le := fun (a b : Int) => decide (a ≤ b)) (fun a b c h1 h2 => by simp at *; omega) (fun a b => by simp; omega) ns
  exact h.imp fun z => by simpa using z
theorem sortI_uniq {ns ns' : List Int} (p : ns'.Perm ns) (s : ns'.Pairwise (· ≤ ·)) : ns' = sortI ns :=
  perm_uniq (fun a b h1 h2 => by omega) (p.trans (sortI_perm ns).symm) s (sortI_pw ns)
def leP (p q : Int × Int) : Bool := !SrtO.lexB q p
def sortP (ps : List (Int × Int)) : List (Int × Int) := sortG leP ps
theorem leP_iff {p q : Int × Int} : leP p q = true ↔ p.1 < q.1 ∨ (p.1 = q.1 ∧ p.2 ≤ q.2) := by
  unfold leP
  rw [Bool.not_eq_true', SrtO.lexB_no]
  omega
theorem sortP_perm (ps : List (Int × Int)) : (sortP ps).Perm ps := sortG_perm ps _
theorem sortP_pw (ps : List (Int × Int)) : (sortP ps).Pairwise fun p q => leP p q = true :=
  sortG_pw (fun a b c h1 h2 => by rw [leP_iff] at *; omega) (fun a b => by
    cases h : leP a b with
    | true => rfl
    | false =>
      rw [Bool.false_or, leP_iff]
      have : ¬ (a.1 < b.1 ∨ (a.1 = b.1 ∧ a.2 ≤ b.2)) := fun z => by rw [leP_iff.mpr z] at h; cases h
      omega) ps
theorem sortP_uniq {ps qs : List (Int × Int)} (p : qs.Perm ps) (s : qs.Pairwise fun p q => leP p q = true) : qs = sortP ps :=
  perm_uniq (fun a b h1 h2 => by
    rw [leP_iff] at h1 h2
    exact Prod.ext (by omega) (by omega)) (p.trans (sortP_perm ps).symm) s (sortP_pw ps)
end RX
/-! RXg: sorted of lists of ints. -/
namespace RX
open L2 PySem PySem.Spec PyProof.Rows
section
variable {prog : Program} {w : World} {A : Around} {E : Value → Shared → Prop} {s : Shared}
/-- v is a list of these ints -/
def IsIl (h : Heap) (v : Value) (ns : List Int) : Prop := ∃ (a : Addr) (its : List Value), v = .ref a ∧ h.IsList a its.toArray ∧ IntsAre its ns
theorem IsIl.keeps {h h' : Heap} {v : Value} {ns : List Int} (x : IsIl h v ns) (k : ∀ b o, v = .ref b → h.get? b = some o → h'.get? b = some o) : IsIl h' v ns := by
  obtain ⟨a, its, e, ⟨o, g, r⟩, i⟩ := x
  exact ⟨a, its, e, ⟨o, k _ _ e g, r⟩, i⟩
theorem firstLt_map {e r : Nat → Bool} {fin : Bool} (f : Nat → Nat) : ∀ l : List Nat, SeqAt.firstLt e r fin (l.map f) = SeqAt.firstLt (fun j => e (f j)) (fun j => r (f j)) fin l
  | [] => rfl
  | j :: l => by
    simp only [List.map_cons, SeqAt.firstLt]
    rw [firstLt_map f l]
theorem first_lex : ∀ ns ms : List Int, SeqAt.firstLt (fun j => ns.getD j 0 == ms.getD j 0) (fun j => decide (ns.getD j 0 < ms.getD j 0)) (decide (ns.length < ms.length)) (List.range (min ns.length ms.length)) = HT.lexLt ns ms
  | [], [] => rfl
  | [], _ :: _ => rfl
  | _ :: _, [] => rfl
  | n :: ns, m :: ms => by
    have ih := first_lex ns ms
    rw [HT.lexLt_cons, List.length_cons, List.length_cons, Nat.succ_min_succ, List.range_succ_eq_map, SeqAt.firstLt, firstLt_map]
    simp only [List.getD_cons_zero, List.getD_cons_succ]
    rw [show decide (ns.length + 1 < ms.length + 1) = decide (ns.length < ms.length) from by simp]
    by_cases h : n = m
    · rw [if_pos (by simp [h]), if_pos h]
      exact ih
    · rw [if_neg (by simp [h]), if_neg h]
theorem getI : ∀ {its : List Value} {ns : List Int}, IntsAre its ns → ∀ j (h : j < its.length), ∃ t, its[j] = .int (ns.getD j 0) t
  | _, _, .nil, j, h => by simp at h
  | _, _, .cons n t r, 0, h => ⟨t, rfl⟩
  | _, _, .cons n t r, j + 1, h => by
    obtain ⟨u, e⟩ := getI r j (by simpa using h)
    exact ⟨u, by simpa using e⟩
theorem rc_int {a b : Int} {t u : Tok} (hu : A.units < cLine) : SeqAt.RcLt A s (.int a t) (.int b u) (decide (a < b)) := fun prog w E Q hq => P.lt_int hq
theorem lt_il {v u : Value} {ns ms : List Int} {Q : Bool → Shared → Prop} (hu : A.units + 1 < cLine) (hv : IsIl s.heap v ns) (hw : IsIl s.heap u ms) (h : Q (HT.lexLt ns ms) s) : wpAny (model prog w) A (keyLt' oneType' v u) Q E s := by
  obtain ⟨a, its, rfl, la, ia⟩ := hv
  obtain ⟨b, its2, rfl, lb, ib⟩ := hw
  have q := first_lex ns ms
  rw [← ia.length, ← ib.length] at q
  rw [keyLt'_oneType, oneLt'_eq]
  simp only [if_true]
  refine wpAny_bind (wpAny_cRoomFor (by omega) ?_)
  obtain ⟨o, g, c, r⟩ := id la
  refine wpAny_bind (wpAny_callSpecialIfBound?_slot (T := "list") ⟨o, g, c⟩ PySem.F.slot_list_lt (SeqAt.call_list_lt la lb (e := fun j => ns.getD j 0 == ms.getD j 0) (r := fun j => decide (ns.getD j 0 < ms.getD j 0)) (fun j h1 h2 => ?_) (fun j h1 h2 _ => ?_) ?_))
  · obtain ⟨t, e1⟩ := getI ia j (by simpa using h1)
    obtain ⟨t2, e2⟩ := getI ib j (by simpa using h2)
    simp only [List.getElem_toArray, e1, e2]
    exact SeqAt.EqAt.int_int _ _ _ _
  · obtain ⟨t, e1⟩ := getI ia j (by simpa using h1)
    obtain ⟨t2, e2⟩ := getI ib j (by simpa using h2)
    simp only [List.getElem_toArray, e1, e2]
    exact rc_int (by show A.in1.units < _; simp [Around.in1]; omega)
  · simp only [List.size_toArray]
    rw [q]
    exact wpAny_truthy_bool h
theorem lex_asym : ∀ xs ys : List Int, HT.lexLt xs ys = true → HT.lexLt ys xs = false
  | [], [], _ => rfl
  | [], _ :: _, _ => rfl
  | _ :: _, [], h => by cases h
  | x :: xs, y :: ys, h => by
    rw [HT.lexLt_cons] at h ⊢
    by_cases e : x = y
    · rw [if_pos e] at h
      rw [if_pos e.symm]
      exact lex_asym xs ys h
    · rw [if_neg e] at h
      rw [if_neg (fun z => e z.symm)]
      have := of_decide_eq_true h
      exact decide_eq_false (by omega)
theorem lex_tr : ∀ xs ys zs : List Int, HT.lexLt ys xs = false → HT.lexLt zs ys = false → HT.lexLt zs xs = false
  | xs, ys, [], h1, h2 => by
    cases xs with
    | nil => rfl
    | cons x xs => cases ys with
      | nil => exact h1
      | cons y ys => cases h2
  | [], ys, z :: zs, h1, h2 => rfl
  | x :: xs, [], z :: zs, h1, h2 => by cases h1
  | x :: xs, y :: ys, z :: zs, h1, h2 => by
    rw [HT.lexLt_cons] at h1 h2 ⊢
    by_cases e1 : y = x
    · subst e1
      rw [if_pos rfl] at h1
      by_cases e2 : z = y
      · rw [if_pos e2] at h2 ⊢
        exact lex_tr xs ys zs h1 h2
      · rw [if_neg e2] at h2 ⊢
        exact h2
    · rw [if_neg e1] at h1
      have a := of_decide_eq_false h1
      by_cases e2 : z = y
      · subst e2
        rw [if_neg e1]
        exact h1
      · rw [if_neg e2] at h2
        have b := of_decide_eq_false h2
        rw [if_neg (by omega)]
        exact decide_eq_false (by omega)
theorem lex_swo {α : Type} (k : α → List Int) : SrtO.Swo fun v u => HT.lexLt (k v) (k u) := ⟨fun _ _ h => lex_asym _ _ h, fun _ _ _ h1 h2 => lex_tr _ _ _ h1 h2⟩
theorem lex_anti : ∀ xs ys : List Int, HT.lexLt xs ys = false → HT.lexLt ys xs = false → xs = ys
  | [], [], _, _ => rfl
  | [], _ :: _, h, _ => by cases h
  | _ :: _, [], _, h => by cases h
  | x :: xs, y :: ys, h1, h2 => by
    rw [HT.lexLt_cons] at h1 h2
    by_cases e : x = y
    · subst e
      rw [if_pos rfl] at h1 h2
      rw [lex_anti xs ys h1 h2]
    · rw [if_neg e] at h1
      rw [if_neg (fun z => e z.symm)] at h2
      have a := of_decide_eq_false h1
      have b := of_decide_eq_false h2
      omega
theorem il_type {M : Model} {h : Heap} {v : Value} {ns : List Int} (x : IsIl h v ns) : PySem.W.Looks M h (typeOf v) (.type "list") := by
  obtain ⟨a, its, rfl, ⟨o, g, c, r⟩, i⟩ := x
  rw [← c]
  exact (PySem.W.Looks.ld g).andThen .now
theorem il_sortable {a : Addr} {vs : List Value} {k : Value → List Int} (h2 : 2 ≤ vs.length) (hu : A.units + 1 < cLine) (hv : ∀ v ∈ vs, IsIl s.heap v (k v)) (ha : ∀ v ∈ vs, v ≠ .ref a) : SrtO.SortableO prog w A s a vs fun v u => HT.lexLt (k v) (k u) := by
  intro h' keep
  have hv' : ∀ v ∈ vs, IsIl h' v (k v) := fun v hm => (hv v hm).keeps fun b o e g => keep b o (fun z => ha v hm (by rw [e, z])) g
  refine ⟨oneType', fun Q E hq => ?_, fun p q hp hq => ?_⟩
  · exact PySem.W.kas_kind (s := { s with heap := h' }) (T := .type "list") h2 (fun v hm => il_type (hv' v hm)) (by decide +kernel) (by decide +kernel) hq
  · exact lt_il (Q := fun r s' => s' = _ ∧ r = HT.lexLt (k p.1) (k q.1)) (E := fun _ _ => False) hu (hv' p.1 hp) (hv' q.1 hq) ⟨rfl, rfl⟩
end
/-- sorted(xs), xs a list of lists of ints -/
def rSortedLL (K : PySem.W.Frag) : List V → Hp → VK → Prop := fun vs H Q => ∃ (a : Addr) (xs : List V) (k : V → List Int), vs = [V.ref a] ∧ SqL K H a xs ∧ (∀ x ∈ xs, ∃ t, x = V.ref t ∧ H t = some (.lst ((k x).map V.int))) ∧
  ∀ ys p, SrtO.Srtd (fun x y => HT.lexLt (k x) (k y)) ys → ys.Perm xs → H p = none → Q (.ref p) (upd H p (.lst ys))
section
variable {X : Cx}
theorem cr_sortedLL (hu : X.A.units + 65 < cLine) : CallR X (.builtin "sorted") (rSortedLL X.K) := by
  intro pins s σ H vs us Q I r h
  obtain ⟨a, xs, k, rfl, hs, hx, q⟩ := h
  obtain ⟨its, rv, hl, hz⟩ := I.list hs
  obtain ⟨u, rfl, ru⟩ := vals1 r
  obtain rfl : u = Value.ref a := ru
  obtain ⟨e1, e2⟩ := refs_back rv fun x m => by
    obtain ⟨t, e, _⟩ := hx x m
    exact ⟨t, e⟩
  have hi : ∀ v ∈ its, IsIl s.heap v (k (backV v)) := fun v hv => by
    obtain ⟨t, rfl⟩ := e2 v hv
    have hm : V.ref t ∈ xs := by rw [e1]; exact List.mem_map.mpr ⟨_, hv, rfl⟩
    obtain ⟨t', e, ht⟩ := hx _ hm
    cases e
    obtain ⟨_, its2, n, r2, o⟩ := I.hok _ _ ht
    exact ⟨t, its2, rfl, ⟨_, o, rfl, n, rfl⟩, r2.ints⟩
  refine SrtO.sorted_ord (ltv := fun v u => HT.lexLt (k (backV v)) (k (backV u))) (lex_swo fun v => k (backV v)) hl.isList (by rw [← rv.length]; exact hz) (fun h2 h₁ a' ha' kk => ?_) fun out h1 h2 => ?_
  · refine il_sortable (s := { s with heap := h₁ }) h2 (by simp only [Around.in1, Around.under]; omega) (fun v hv => (hi v hv).keeps fun b o _ g => (kk b o g).2) fun v hv e => ?_
    obtain ⟨b, its2, e', ⟨o, g, _⟩, _⟩ := hi v hv
    rw [e] at e'
    cases e'
    exact (kk _ o g).1 rfl
  · have h3 : ∀ u ∈ out, ∃ a, u = Value.ref a := fun u hu => e2 u (h2.perm.mem_iff.mp hu)
    obtain ⟨n, hn⟩ := PyProof.Rows.sortedAll_at s.heap its out.toArray
    have hp : (out.map backV).Perm xs := by rw [e1]; exact h2.perm.map backV
    refine ⟨.ref _, upd H _ (.lst (out.map backV)), I.laid (t' := s.toks) (fun b o e => PyProof.Rows.sortedAll_old e) (Nat.le_succ _) ⟨?_, out, n, vals_back h3, hn⟩, rfl, q _ _ (List.pairwise_map.mpr h1) hp (I.hok.fresh (Nat.le_succ _))⟩
    rw [hp.length_eq]
    exact hz
end
def leL (x y : List Int) : Bool := !HT.lexLt y x
def sortL (xs : List (List Int)) : List (List Int) := sortG leL xs
theorem leL_iff {x y : List Int} : leL x y = true ↔ HT.lexLt y x = false := by
  unfold leL; rw [Bool.not_eq_true']
theorem sortL_perm (xs : List (List Int)) : (sortL xs).Perm xs := sortG_perm xs _
theorem sortL_pw (xs : List (List Int)) : (sortL xs).Pairwise fun x y => leL x y = true :=
  sortG_pw (fun a b c h1 h2 => by rw [leL_iff] at *; exact lex_tr _ _ _ h1 h2) (fun a b => by
    cases h : leL a b with
    | true => rfl
    | false =>
      rw [Bool.false_or, leL_iff]
      have : HT.lexLt b a = true := by
        unfold leL at h
        simpa using h
      exact lex_asym _ _ this) xs
theorem sortL_uniq {xs ys : List (List Int)} (p : ys.Perm xs) (s : ys.Pairwise fun x y => leL x y = true) : ys = sortL xs :=
  perm_uniq (fun a b h1 h2 => by
    rw [leL_iff] at h1 h2
    exact lex_anti a b h2 h1) (p.trans (sortL_perm xs).symm) s (sortL_pw xs)
end RX
/-! RXh: sum of a list of lists. -/
namespace PySem
open Sem (wp)
section
variable {prog : Program} {w : World} {A : Around} {R : Result → Shared → Prop} {I lA S : Addr} {items : Array Value} {ad : Nat → Addr} {its : Nat → List Value}
def restF (its : Nat → List Value) : Nat → Nat → List Value
  | 0, _ => []
  | k + 1, i => its i ++ restF its k (i + 1)
theorem codeAny_sum_lists (hh : A.in1.handled = none) (hne : lA ≠ I) (hSI : S ≠ I) (hSl : S ≠ lA) (hval : ∀ i v, items[i]? = some v → v = Value.ref (ad i)) (had : ∀ i, i < items.size → ad i ≠ I ∧ ad i ≠ S) :
    ∀ (k i : Nat) (s : Shared) (tA : Addr) (tot : List Value) (c ct : Nat) (stage : Int), stage = 2 → items.size - i = k → i ≤ items.size → s.heap.IsListIter I lA i → s.heap.IsList lA items → s.heap.get? S = some { cls := .type "list", dict := none, data := .seq #[.ref tA] c, slots := #[] } →
    IsL s.heap tA tot.toArray ct → tA ≠ I → tA ≠ S → (∀ j, j < items.size → ∃ cj, IsL s.heap (ad j) (its j).toArray cj) → tot.length + (restF its k i).length ≤ sizeLine →
    (∀ h' tk t' ct', (∀ b o, b ≠ I → b ≠ S → s.heap.get? b = some o → h'.get? b = some o) → IsL h' t' (tot ++ restF its k i).toArray ct' → (i < items.size → ∀ b o, s.heap.get? b = some o → b ≠ t') → (i = items.size → t' = tA) → R (.ok (.ret (.ref t'))) { s with heap := h', toks := tk }) →
    codeAny (model prog w) A (.builtin "sum.loop" ⟨[.ref I, .ref S, rawInt stage, rawInt 0], []⟩) R s := by
  have W := Walks.list (prog := prog) (w := w) (A := A.in1) hh I lA hne items
  intro k
  induction k with
  | zero =>
    intro i s tA tot c ct stage hstage hk hi hit hl hS hT hTI hTS hE hsz hR
    have hin : i = items.size := by omega
    subst hin
    refine codeAny_builtin F.entry_sum_loop ?_
    rw [Around.under_plainId F.plain_sum_loop _]
    show wpAny _ A.in1 (seqItems? (.ref S) >>= _) _ _ s
    refine wpAny_bind (wpAny_seqItems hS rfl ?_)
    show wpAny _ A.in1 (tryCatch (pyNext (.ref I)) _ >>= _) _ _ s
    refine wpAny_bind (wpAny_tryCatch (W.done s _ _ ⟨hit, hl⟩ fun h' tk hk' => ?_))
    exact wpAny_pure (hR h' tk tA ct (fun b o hbI _ e => hk' b o (by simpa using hbI) e) (by
      simp only [restF, List.append_nil]
      exact hk' tA _ (by simpa using hTI) hT) (fun z => absurd z (Nat.lt_irrefl _)) (fun _ => rfl))
  | succ k ih =>
    intro i s tA tot c ct stage hstage hk hi hit hl hS hT hTI hTS hE hsz hR
    have hlt : i < items.size := by omega
    subst hstage
    refine codeAny_builtin F.entry_sum_loop ?_
    rw [Around.under_plainId F.plain_sum_loop _]
    show wpAny _ A.in1 (seqItems? (.ref S) >>= _) _ _ s
    refine wpAny_bind (wpAny_seqItems hS rfl ?_)
    show wpAny _ A.in1 (tryCatch (pyNext (.ref I)) _ >>= _) _ _ s
    refine wpAny_bind (wpAny_tryCatch (W.item i s _ _ hlt ⟨hit, hl⟩ fun v h' tk hP hst' hk' => ?_))
    obtain rfl := hval i v hP
    have kp : ∀ b o, b ≠ I → s.heap.get? b = some o → h'.get? b = some o := fun b o hb e => hk' b o (by simpa using hb) e
    have hS' := kp S _ hSI hS
    have hT' : IsL h' tA tot.toArray ct := kp tA _ hTI hT
    obtain ⟨cj, hj⟩ := hE i hlt
    have hj' : IsL h' (ad i) (its i).toArray cj := kp (ad i) _ (had i hlt).1 hj
    simp only [restF, List.length_append] at hsz
    show wpAny _ A.in1 ((holding [Value.ref (ad i)] (binaryOp .Add (.ref tA) (.ref (ad i)))).attempt >>= _) _ _ _
    refine wpAny_bind (wpAny_attempt (wpAny_holding (P.add_list hT' hj' ?_ (by simp; omega))))
    generalize hnw : h'.objs.size = t1
    have hn1 : h'.get? t1 = none := by
      cases z : h'.get? t1 with
      | none => rfl
      | some o => exact absurd (Heap.lt_size z) (by rw [hnw]; exact Nat.lt_irrefl _)
    have ne1 : ∀ b o, h'.get? b = some o → b ≠ t1 := fun b o e z => by rw [z, hn1] at e; cases e
    have k1 : ∀ b o, h'.get? b = some o → (h'.push { cls := .type "list", data := .seq (tot.toArray ++ (its i).toArray) }).get? b = some o := fun b o e => Heap.get?_push_of_some _ e
    have hS1 := k1 S _ hS'
    have hT1 : IsL (h'.push { cls := .type "list", data := .seq (tot.toArray ++ (its i).toArray) }) t1 (tot ++ its i).toArray 0 := by
      rw [← hnw, show (tot ++ its i).toArray = tot.toArray ++ (its i).toArray from by simp]
      exact IsL.new _ _
    generalize h'.push { cls := .type "list", data := .seq (tot.toArray ++ (its i).toArray) } = h1 at k1 hS1 hT1 ⊢
    have t1S : t1 ≠ S := fun z => ne1 S _ hS' z.symm
    have t1I : t1 ≠ I := by
      obtain ⟨o, e, _⟩ := hst'.1
      exact fun z => ne1 I o e z.symm
    show wpAny _ A.in1 (updateSeq S (fun _ => #[.ref t1]) >>= _) _ _ _
    refine wpAny_bind ?_
    refine wpAny_updateSeq hS1 rfl ?_
    have hS2 := Heap.get?_update_self (Obj.mapSeq fun _ => #[Value.ref t1]) hS1 rfl
    refine wpAny_bind (wpAny_letGo ?_)
    refine wpAny_bind ?_
    refine wpAny_updateSeq hS2 rfl (wpAny_pure ⟨plainId_quiet F.plain_sum_loop _, ?_⟩)
    have fr : ∀ b o, b ≠ S → h1.get? b = some o → ((h1.update S (Obj.mapSeq fun _ => #[Value.ref t1])).update S (Obj.mapSeq fun _ => #[Value.ref t1])).get? b = some o := fun b o hb e => (Heap.get?_update_other _ _ (Ne.symm hb)).trans ((Heap.get?_update_other _ _ (Ne.symm hb)).trans e)
    refine ih (i + 1) _ t1 (tot ++ its i) _ 0 2 rfl (by omega) hlt (hst'.1.at fun o e => fr I o (Ne.symm hSI) (k1 I o e)) (hst'.2.at fun o e => fr lA o (Ne.symm hSl) (k1 lA o e)) (Heap.get?_update_self _ hS2 rfl) (fr t1 _ t1S hT1) t1I t1S (fun j hj2 => ?_) (by rw [List.length_append]; omega) fun h'' tk'' t'' ct'' hk'' hT'' hf'' hg'' => ?_
    · obtain ⟨c2, e2⟩ := hE j hj2
      exact ⟨c2, fr (ad j) _ (had j hj2).2 (k1 (ad j) _ (kp (ad j) _ (had j hj2).1 e2))⟩
    · refine hR h'' tk'' t'' ct'' (fun b o hbI hbS e => hk'' b o hbI hbS (fr b o hbS (k1 b o (kp b o hbI e)))) (by simpa [restF] using hT'') (fun _ b o e => ?_) (fun z => absurd z (by omega))
      by_cases q : i + 1 < items.size
      · by_cases hbS : b = S
        · subst hbS
          exact hf'' q b _ (Heap.get?_update_self _ hS2 rfl)
        · by_cases hbI : b = I
          · subst hbI
            obtain ⟨o2, e2, _⟩ := hst'.1
            exact hf'' q b o2 (fr b o2 hbS (k1 b o2 e2))
          · exact hf'' q b o (fr b o hbS (k1 b o (kp b o hbI e)))
      · rw [hg'' (by omega)]
        by_cases hbI : b = I
        · subst hbI
          exact fun z => t1I z.symm
        · exact ne1 b o (kp b o hbI e)
end
section
variable {prog : Program} {w : World} {A : Around} {E : Value → Shared → Prop} {s : Shared}
theorem args_sum2 (a b : Value) : argsOk "sum" ⟨[a, b], []⟩ := by unfold argsOk; kernel_rfl
theorem sub_list_bytes' : isSubtype (.type "list") (.type "bytes") = pure false := by rw [isSubtype_type]; kernel_rfl
theorem sub_list_bytearray' : isSubtype (.type "list") (.type "bytearray") = pure false := by rw [isSubtype_type]; kernel_rfl
theorem call_sum_lists {l b : Addr} {items : Array Value} {ad : Nat → Addr} {its : Nat → List Value} {tot : List Value} {cb : Nat} {Q : Value → Shared → Prop} (hh : A.handled = none) (hl : s.heap.IsList l items) (hb : IsL s.heap b tot.toArray cb)
    (hval : ∀ i v, items[i]? = some v → v = Value.ref (ad i)) (hE : ∀ j, j < items.size → ∃ cj, IsL s.heap (ad j) (its j).toArray cj) (hsz : tot.length + (restF its items.size 0).length ≤ sizeLine) (hpos : 0 < items.size)
    (h : ∀ h' tk t' ct', (∀ b o, s.heap.get? b = some o → h'.get? b = some o) → IsL h' t' (tot ++ restF its items.size 0).toArray ct' → (∀ b o, s.heap.get? b = some o → b ≠ t') → Q (.ref t') { s with heap := h', toks := tk }) :
    wpAny (model prog w) A (call (.builtin "sum") [.ref l, .ref b]) Q E s := by
  refine call_function_tree F.kind_sum F.plain_sum F.entry_sum (args_sum2 _ _) ?_
  unfold Builtin.«sum»
  simp only [List.length_cons, List.length_nil]
  rw [if_neg (by decide)]
  refine wpAny_bind (wpAny_of_eq (show Builtin.Builtins.bindParams "sum" ["start"] 0 { pos := [.ref b] } = pure [some (.ref b)] from rfl) ?_)
  refine wpAny_bind (wpAny_pyIter_list hl ?_)
  have hII : (s.heap.push { cls := .type "list_iterator", data := .fields #[.ref l, .int 0 0] }).get? s.heap.objs.size = some { cls := .type "list_iterator", data := .fields #[.ref l, .int 0 0] } := Heap.get?_push_size _ rfl
  refine wpAny_bind (wpAny_pure ?_)
  have kept : ∀ a o, s.heap.get? a = some o → (s.heap.push { cls := .type "list_iterator", data := .fields #[.ref l, .int 0 0] }).get? a = some o := fun a o e => Heap.get?_push_of_some _ e
  have hl2 : (s.heap.push { cls := .type "list_iterator", data := .fields #[.ref l, .int 0 0] }).IsList l items := hl.push _
  have hit : (s.heap.push { cls := .type "list_iterator", data := .fields #[.ref l, .int 0 0] }).IsListIter s.heap.objs.size l 0 := ⟨_, hII, rfl, rfl⟩
  have old : ∀ a o, s.heap.get? a = some o → a ≠ s.heap.objs.size := fun a o e => Nat.ne_of_lt (Heap.lt_size e)
  generalize hI : s.heap.objs.size = I at hit old hII
  have lI : l ≠ I := by
    obtain ⟨o, e, _⟩ := hl
    exact old l o e
  have gI : ∃ o, (s.heap.push { cls := .type "list_iterator", data := .fields #[.ref l, .int 0 0] }).get? I = some o := ⟨_, hII⟩
  generalize s.heap.push { cls := .type "list_iterator", data := .fields #[.ref l, .int 0 0] } = h1 at kept hl2 hit gI ⊢
  have tyL : Shared.TypeIs { s with heap := h1 } (.ref b) "list" := ⟨_, kept b _ hb, rfl⟩
  simp only [List.forIn_cons, List.forIn_nil]
  refine wpAny_bind (wpAny_bind (wpAny_bind (wpAny_isInstance (T := "list") (b := false) tyL F.sub_list_str ?_)))
  simp only [Bool.false_eq_true, if_false]
  refine wpAny_pure (wpAny_bind (wpAny_bind (wpAny_isInstance (T := "list") (b := false) tyL F.sub_list_bytes ?_)))
  simp only [Bool.false_eq_true, if_false]
  refine wpAny_pure (wpAny_bind (wpAny_bind (wpAny_isInstance (T := "list") (b := false) tyL F.sub_list_bytearray ?_)))
  simp only [Bool.false_eq_true, if_false]
  refine wpAny_pure (wpAny_pure ?_)
  refine wpAny_bind (wpAny_newObj_type ?_)
  have new : ∀ a o, h1.get? a = some o → a ≠ h1.objs.size := fun a o e => Nat.ne_of_lt (Heap.lt_size e)
  have k2 : ∀ a o, h1.get? a = some o → (h1.push { cls := .type "list", data := .seq #[.ref b] }).get? a = some o := fun a o e => Heap.get?_push_of_some _ e
  refine wpAny_pure ⟨plainId_quiet F.plain_sum_loop _, codeAny_sum_lists (S := h1.objs.size) (I := I) (lA := l) (items := items) (ad := ad) (its := its) hh lI (fun z => ?_) (fun z => ?_) hval (fun i hi => ?_) items.size 0 _ b tot 0 cb 2 rfl rfl (Nat.zero_le _) (hit.at fun o e => k2 _ o e) (hl2.at fun o e => k2 _ o e) (Heap.get?_push_size _ rfl) (k2 b _ (kept b _ hb)) (old b _ hb) (new b _ (kept b _ hb)) (fun j hj => ?_) hsz fun h' tk t' ct' hk hT hf _ => ?_⟩
  · obtain ⟨o, e⟩ := gI
    exact new I o e z.symm
  · obtain ⟨o, e, _⟩ := hl2
    exact new l o e z.symm
  · obtain ⟨cj, e⟩ := hE i hi
    exact ⟨old _ _ e, new _ _ (kept _ _ e)⟩
  · obtain ⟨cj, e⟩ := hE j hj
    exact ⟨cj, k2 _ _ (kept _ _ e)⟩
  · exact h h' tk t' ct' (fun a o e => hk a o (old a o e) (new a o (kept a o e)) (k2 a o (kept a o e))) hT fun a o e => hf hpos a o (k2 a o (kept a o e))
end
end PySem
namespace RX
open L2 PySem PySem.Spec PyProof.Rows
/-- sum(xs, zs): a list of lists behind a list -/
def rSumL (K : PySem.W.Frag) : List V → Hp → VK → Prop := fun vs H Q => ∃ (a b : Addr) (xs zs : List V) (k : V → List V), vs = [V.ref a, V.ref b] ∧ SqL K H a xs ∧ H b = some (.lst zs) ∧ xs ≠ [] ∧ (∀ x ∈ xs, ∃ t, x = V.ref t ∧ H t = some (.lst (k x))) ∧
  zs.length + (xs.map k).flatten.length ≤ sizeLine ∧ ∀ p, H p = none → Q (.ref p) (upd H p (.lst (zs ++ (xs.map k).flatten)))
theorem rest_vals {k : V → List V} {us : Nat → List Value} : ∀ (xs : List V) (i : Nat), (∀ j (h : j < xs.length), Vals (k xs[j]) (us (i + j))) → Vals (xs.map k).flatten (restF us xs.length i)
  | [], i, _ => .nil
  | x :: xs, i, h => by
    rw [List.map_cons, List.flatten_cons, List.length_cons, restF]
    refine (h 0 (by simp)).append (rest_vals xs (i + 1) fun j hj => ?_)
    have := h (j + 1) (by simp; omega)
    rw [show i + 1 + j = i + (j + 1) by omega]
    exact this
section
variable {X : Cx}
theorem cr_sumL (hc : X.calm = true) : CallR X (.builtin "sum") (rSumL X.K) := by
  intro pins s σ H vs us Q I r h
  obtain ⟨a, b, xs, zs, k, rfl, hs, hb, hne, hx, hz, q⟩ := h
  obtain ⟨its, rv, hl, hzl⟩ := I.list hs
  obtain ⟨u1, u2, rfl, ru, ru2⟩ := vals2 r
  obtain rfl : u1 = Value.ref a := ru
  obtain rfl : u2 = Value.ref b := ru2
  obtain ⟨_, zits, zn, zr, ze⟩ := I.hok b _ hb
  have len := rv.length
  have ex : ∀ j : Nat, ∃ p : Addr × List Value, ∀ hj : j < xs.length, its[j]? = some (Value.ref p.1) ∧ Vals (k xs[j]) p.2 ∧ ∃ c, IsL s.heap p.1 p.2.toArray c := fun j => by
    by_cases hj : j < xs.length
    · obtain ⟨t, e, ht⟩ := hx xs[j] (List.getElem_mem hj)
      obtain ⟨_, us, n, r2, o⟩ := I.hok _ _ ht
      refine ⟨(t, us), fun _ => ⟨?_, r2, n, o⟩⟩
      obtain ⟨v, hv, rr⟩ := rv.get (i := j) (x := xs[j]) (by simp [hj])
      rw [e] at rr
      rw [hv]
      cases rr
      rfl
    · exact ⟨(0, []), fun h => absurd h hj⟩
  obtain ⟨f, hf⟩ := Classical.axiomOfChoice ex
  have rest := rest_vals (k := k) (us := fun j => (f j).2) xs 0 fun j hj => by rw [Nat.zero_add]; exact (hf j hj).2.1
  have sz : its.toArray.size = xs.length := by rw [List.size_toArray, len]
  refine call_sum_lists (ad := fun j => (f j).1) (its := fun j => (f j).2) (tot := zits) (I.ok.hd hc) hl.isList ze (fun i v e => ?_) (fun j hj => ?_) ?_ ?_ fun h' tk t' ct' hk hT hfr => ?_
  · have e : its[i]? = some v := by simpa using e
    have hi : i < its.length := (List.getElem?_eq_some_iff.mp e).1
    have := (hf i (by omega)).1
    rw [e] at this
    cases this
    rfl
  · exact (hf j (by omega)).2.2
  · rw [sz, ← zr.length, ← rest.length]
    exact hz
  · rw [sz]
    exact List.length_pos_iff.mpr hne
  · rw [sz] at hT
    have hn : s.heap.get? t' = none := by
      cases z : s.heap.get? t' with
      | none => rfl
      | some o => exact absurd rfl (hfr t' o z)
    have hn2 : H t' = none := I.hok.gone hn
    refine ⟨.ref t', upd H t' (.lst (zs ++ (xs.map k).flatten)), I.laidN hk hn hn2 ⟨by rw [List.length_append]; exact hz, _, ct', zr.append rest, hT⟩, rfl, q t' hn2⟩
end
end RX
/-! RFa: values, the little language, its evaluator. -/
namespace RF
open PySem
/-! ### values -/
inductive D where
  | non | bl (b : Bool) | int (i : Int) | str (s : Str)
  | lst (ds : List D) | tup (ds : List D)
  | scr (ns : List Int)
  | fn (f : Nat)
  | obj (c : Nat) (ds : List D)
  | exc (c : Nat) (ds : List D)
  | clo (k : Nat) (ds : List D)
  deriving Inhabited
/-- a value of which some lists are owned -/
inductive O where
  | z (d : D) | l (os : List O) | t (os : List O)
  deriving Inhabited
mutual
def O.toD : O → D
  | .z d => d
  | .l os => .lst (O.toDs os)
  | .t os => .tup (O.toDs os)
def O.toDs : List O → List D
  | [] => []
  | o :: os => o.toD :: O.toDs os
end
theorem O.toDs_map : ∀ os : List O, O.toDs os = os.map O.toD
  | [] => by simp [O.toDs]
  | o :: os => by simp [O.toDs, O.toDs_map os]
mutual
/-- no list within -/
def D.lf : D → Bool
  | .lst _ => false
  | .obj _ _ => false
  | .exc _ _ => false
  | .clo _ _ => false
  | .scr _ => false
  | .tup ds => D.lfs ds
  | _ => true
def D.lfs : List D → Bool
  | [] => true
  | d :: ds => d.lf && D.lfs ds
end
theorem D.lfs_all : ∀ ds : List D, D.lfs ds = ds.all D.lf
  | [] => by simp [D.lfs]
  | d :: ds => by simp [D.lfs, D.lfs_all ds]
mutual
/-- what may be shared with others is no list -/
def O.clean : O → Bool
  | .z d => d.lf
  | .l os => O.cleans os
  | .t os => O.cleans os
def O.cleans : List O → Bool
  | [] => true
  | o :: os => o.clean && O.cleans os
end
theorem O.cleans_all : ∀ os : List O, O.cleans os = os.all O.clean
  | [] => by simp [O.cleans]
  | o :: os => by simp [O.cleans, O.cleans_all os]
mutual
def D.py : D → PyData
  | .non => .none
  | .bl b => .bool b
  | .int i => .int i
  | .str s => .str s
  | .lst ds => .list (D.pys ds)
  | .tup ds => .tuple (D.pys ds)
  | .scr _ => .dict []
  | .fn _ => .dict []
  | .obj _ _ => .dict []
  | .exc _ _ => .dict []
  | .clo _ _ => .dict []
def D.pys : List D → List PyData
  | [] => []
  | d :: ds => d.py :: D.pys ds
end
theorem D.pys_map : ∀ ds : List D, D.pys ds = ds.map D.py
  | [] => by simp [D.pys]
  | d :: ds => by simp [D.pys, D.pys_map ds]
/-- data of a depth of at most n -/
def D.ok : Nat → D → Bool
  | _, .non => true
  | _, .bl _ => true
  | _, .int _ => true
  | _, .str x => PyData.strOk x
  | n + 1, .lst ds => ds.all (D.ok n)
  | n + 1, .tup ds => ds.all (D.ok n)
  | _, _ => false
def D.eqv (a b : D) : Bool := PyData.eqv a.py b.py
/-! ### the language -/
inductive Bop where | add | sub | mul | fdiv | mod | pow
  deriving DecidableEq, Repr
inductive Cop where | eq | ne | lt | le | gt | ge | mem | nmem | is | isn
  deriving DecidableEq, Repr
inductive Ty where | int | bool | str | list | tuple | lt
  deriving DecidableEq, Repr
inductive Blt where | len | abs | sum | max1 | min1 | max2 | min2 | int | list | tuple | sorted | all | str | repr
  deriving DecidableEq, Repr
inductive Tg where
  | nm (i : Nat) | tp (is : List Nat)
  deriving DecidableEq, Repr
mutual
inductive X where
  | v (i : Nat)
  | non | tt (b : Bool) | n (i : Int) | s (x : Str)
  | g (f : Nat) | gk (j : Nat) (i : Int) | lam (f : Nat) (is : List Nat)
  | tup (es : Xs) | lst (es : Xs)
  | bin (o : Bop) (a b : X)
  | neg (a : X)
  | cmp (o : Cop) (a b : X)
  | cmp2 (o p : Cop) (a b c : X)
  | and (es : Xs) | or (es : Xs) | not (a : X)
  | ite (c a b : X)
  | ix (a i : X)
  | sl (a : X) (lo hi : Xo)
  | rev (a : X)
  | call (p : Bool) (f : Nat) (es : Xs)
  | callk (f : Nat) (es ks : Xs) (perm : List Nat)
  | callv (i : Nat) (es : Xs)
  | blt (b : Blt) (es : Xs)
  | lrange (it : It)
  | isi (t : Ty) (a : X)
  | bits (a : X)
  | comp (elt : X) (t : Tg) (it : It) (c : Xo) (own : List Nat)
  | pop (i : Nat) | popAt (i : Nat) (k : X)
  | attr (i : Nat) | isc (c i : Nat) | idx (i : Nat) (b : X) | ix2 (i : Nat) (a b : X)
inductive Xs where
  | nil | cons (e : X) (es : Xs)
inductive Xo where
  | none | some (e : X)
inductive It where
  | seq (a : X) | rng1 (a : X) | rng2 (a b : X) | rng3 (a b c : X) | enum (a : X)
end
mutual
inductive S where
  | set (i : Nat) (e : X)
  | asg (is : List Nat) (e : X)
  | par (is : List Nat) (es : Xs)
  | sto (i : Nat) (k e : X)
  | app (i : Nat) (e : X)
  | expr (e : X)
  | ret (e : X) | ret0
  | ite (c : X) (a b : Ss)
  | for (t : Tg) (it : It) (b : Ss)
  | whl (c : X) (b : Ss)
  | pass
  | never
  | raise (c : Nat) (e : X)
  | tryE (i j : Nat) (e : X)
  | each (i j : Nat) (n : Int)
inductive Ss where
  | nil | cons (s : S) (r : Ss)
end
/-! ### results -/
abbrev Env := List (Option O)
inductive R (α : Type) where
  | ok (a : α) (env : Env) | ex (c : Nat) (ds : List D) | no
  deriving Inhabited
def R.bind {α β : Type} (r : R α) (f : α → Env → R β) : R β := match r with
  | .ok a env => f a env
  | .ex c ds => .ex c ds
  | .no => .no
/-- no exception leaves -/
def R.nox {α : Type} : R α → R α
  | .ok a env => .ok a env
  | _ => .no
@[simp] theorem R.nox_ok {α : Type} (a : α) (env : Env) : (R.ok a env).nox = .ok a env := rfl
@[simp] theorem R.bind_ok {α β : Type} (a : α) (env : Env) (f : α → Env → R β) : (R.ok a env).bind f = f a env := rfl
@[simp] theorem R.bind_ex {α β : Type} (c : Nat) (ds : List D) (f : α → Env → R β) : (R.ex c ds).bind f = .ex c ds := rfl
@[simp] theorem R.bind_no {α β : Type} (f : α → Env → R β) : (R.no).bind f = .no := rfl
/-- a call's end -/
inductive CR where
  | rt (o : O) (outs : List O) | ex (c : Nat) (ds : List D) | no
  deriving Inhabited
inductive Out where
  | nx (env : Env) | rt (o : O) (env : Env) | ex (c : Nat) (ds : List D) | no
  deriving Inhabited
structure Cfg where
  call : Nat → List O → CR
  sig : Nat → List Bool
/-! ### operators -/
def mulOk (i j : Int) : Bool := decide (i.natAbs.log2 + j.natAbs.log2 < 1000000)
def divOk (j : Int) : Bool := decide (j ≠ 0) && decide (j.natAbs.log2 < 9000)
def powOk (i j : Int) : Bool := decide (0 ≤ j) && decide (i.natAbs.log2 + 1 ≤ 3000) && decide (j ≤ 3000)
def lenOk {α : Type} (xs : List α) : Bool := decide (xs.length < 2 ^ 20)
def binop : Bop → D → D → Option O
  | .add, .int i, .int j => some (.z (.int (i + j)))
  | .add, .lst xs, .lst ys => if lenOk xs && lenOk ys then some (.l ((xs ++ ys).map .z)) else none
  | .sub, .int i, .int j => some (.z (.int (i - j)))
  | .mul, .int i, .int j => if mulOk i j then some (.z (.int (i * j))) else none
  | .mul, .lst xs, .int k => if decide (xs.length < 1024) && decide (k < 1024) && decide (-1024 < k) then some (.l ((List.replicate k.toNat xs).flatten.map .z)) else none
  | .fdiv, .int i, .int j => if divOk j then some (.z (.int (i.fdiv j))) else none
  | .mod, .int i, .int j => if decide (j ≠ 0) then some (.z (.int (i.fmod j))) else none
  | .pow, .int i, .int j => if powOk i j then some (.z (.int (i ^ j.toNat))) else none
  | _, _, _ => none
def ints? : List D → Option (List Int)
  | [] => some []
  | .int i :: ds => (ints? ds).map (i :: ·)
  | _ => none
def bls? : List D → Option (List Bool)
  | [] => some []
  | .bl i :: ds => (bls? ds).map (i :: ·)
  | _ => none
/-- tuples of ints as lists of ints -/
def tupInts? : D → Option (List Int)
  | .tup ds => ints? ds
  | _ => none
def D.isNon : D → Bool
  | .non => true
  | _ => false
def D.isBl (b : Bool) : D → Bool
  | .bl c => b == c
  | _ => false
def cmpop : Cop → D → D → Option Bool
  | .eq, a, b => if a.ok 60 && b.ok 60 then some (D.eqv a b) else none
  | .ne, a, b => if a.ok 60 && b.ok 60 then some (!D.eqv a b) else none
  | .lt, .int i, .int j => some (decide (i < j))
  | .lt, a, b => (tupInts? a).bind fun x => (tupInts? b).map fun y => HT.lexLt x y
  | .le, .int i, .int j => some (decide (i ≤ j))
  | .gt, .int i, .int j => some (decide (j < i))
  | .ge, .int i, .int j => some (decide (j ≤ i))
  | .ge, .tup [.int i, .int j], .tup [.int k, .int l] => some (RX.geP i j k l)
  | .mem, a, .lst ds => if a.ok 60 && (D.lst ds).ok 60 then some (ds.any fun z => D.eqv z a) else none
  | .nmem, a, .lst ds => if a.ok 60 && (D.lst ds).ok 60 then some (!ds.any fun z => D.eqv z a) else none
  | .is, a, .non => some a.isNon
  | .is, a, .bl b => some (a.isBl b)
  | .isn, a, .non => some (!a.isNon)
  | .isn, a, .bl b => some (!a.isBl b)
  | _, _, _ => none
def isiV : Ty → D → Option Bool
  | _, .fn _ => none
  | _, .obj _ _ => none
  | _, .exc _ _ => none
  | _, .clo _ _ => none
  | _, .scr _ => none
  | .int, .int _ => some true
  | .int, .bl _ => some true
  | .int, _ => some false
  | .bool, .bl _ => some true
  | .bool, _ => some false
  | .str, .str _ => some true
  | .str, _ => some false
  | .list, .lst _ => some true
  | .list, _ => some false
  | .tuple, .tup _ => some true
  | .tuple, _ => some false
  | .lt, .lst _ => some true
  | .lt, .tup _ => some true
  | .lt, _ => some false
def reprOk (d : D) : Bool := d.ok 60 && (d.py.showable && !d.py.hasDict) && decide (d.py.shown.length + 64 ≤ sizeLine)
/-- the first place of k -/
def idxI (ds : List D) (k : Int) : Option Nat := (ints? ds).bind fun ns => if k ∈ ns then some (ns.idxOf k) else none
/-- pairs of ints -/
def pairs? : List D → Option (List (Int × Int))
  | [] => some []
  | .tup [.int i, .int j] :: ds => (pairs? ds).map ((i, j) :: ·)
  | _ => none
def prD (p : Int × Int) : D := .tup [.int p.1, .int p.2]
/-- lists of ints -/
def ilists? : List D → Option (List (List Int))
  | [] => some []
  | .lst us :: ds => (ints? us).bind fun ns => (ilists? ds).map (ns :: ·)
  | _ => none
def ilD (ns : List Int) : D := .lst (ns.map D.int)
/-- the items of lists -/
def lists? : List D → Option (List (List D))
  | [] => some []
  | .lst us :: ds => (lists? ds).map (us :: ·)
  | _ => none
def sortD (ds : List D) : Option O := match ints? ds with
  | some ns => some (.l (((RX.sortI ns).map D.int).map .z))
  | none => match pairs? ds with
    | some ps => some (.l (((RX.sortP ps).map prD).map .z))
    | none => (ilists? ds).map fun xs => .l (((RX.sortL xs).map ilD).map .z)
def bltV : Blt → List D → Option O
  | .len, [.lst ds] => some (.z (.int ds.length))
  | .len, [.tup ds] => some (.z (.int ds.length))
  | .len, [.scr ds] => some (.z (.int ds.length))
  | .abs, [.int i] => some (.z (.int (if i < 0 then -i else i)))
  | .sum, [.lst ds] => (ints? ds).map fun ns => .z (.int ns.sum)
  | .max2, [.int i, .int j] => some (.z (.int (if j > i then j else i)))
  | .min2, [.int i, .int j] => some (.z (.int (if j < i then j else i)))
  | .max1, [.lst ds] => (ints? ds).bind fun ns => (ns.max?).map fun m => .z (.int m)
  | .min1, [.lst ds] => (ints? ds).bind fun ns => (ns.min?).map fun m => .z (.int m)
  | .int, [.int i] => some (.z (.int i))
  | .int, [.bl k] => some (.z (.int (if k then 1 else 0)))
  | .list, [.lst ds] => some (.l (ds.map .z))
  | .list, [.tup ds] => some (.l (ds.map .z))
  | .tuple, [.lst ds] => some (.z (.tup ds))
  | .all, [.lst ds] => (bls? ds).map fun bs => .z (.bl (bs.all id))
  | .repr, [.lst ds] => if reprOk (.lst ds) then some (.z (.str (D.lst ds).py.shown)) else none
  | .sorted, [.lst ds] => sortD ds
  | .sum, [.lst ds, .lst zs] => (lists? ds).bind fun xs => if xs ≠ [] ∧ lenOk zs = true ∧ lenOk xs.flatten = true then some (.l ((zs ++ xs.flatten).map .z)) else none
  | _, _ => none
/-- the whole numbers from lo on, n of them, by st -/
def rangeL (lo st : Int) : Nat → List D
  | 0 => []
  | n + 1 => .int lo :: rangeL (lo + st) st n
def rngOk (i : Int) : Bool := decide (-(2 ^ 40) < i) && decide (i < 2 ^ 40)
def enumL (k : Nat) : List D → List D
  | [] => []
  | d :: ds => .tup [.int k, d] :: enumL (k + 1) ds
/-- the items of a slice -/
def cutL {α : Type} (xs : List α) (lo hi : Option Int) : List α := (xs.drop (HT.sIx xs.length 0 lo)).take (HT.sIx xs.length xs.length hi - HT.sIx xs.length 0 lo)
/-! ### environments -/
def getE (env : Env) (i : Nat) : Option O := (env[i]?).join
def frz (o : O) : O := .z o.toD
/-- the slots is of new as in old -/
def restore (old new : Env) : List Nat → Env
  | [] => new
  | i :: is => (restore old new is).set i ((old[i]?).join)
def wipeE (env : Env) : List Nat → Env
  | [] => env
  | i :: is => (wipeE env is).set i none
def setAll (env : Env) : List Nat → List O → Option Env
  | [], [] => some env
  | i :: is, o :: os => setAll (env.set i (some o)) is os
  | _, _ => none
/-- items that a target of several names takes -/
def items? : O → Option (List O)
  | .z (.tup ds) => some (ds.map .z)
  | .t os => some os
  | _ => none
def tgE (t : Tg) (o : O) (env : Env) : Option Env := match t with
  | .nm i => some (env.set i (some o))
  | .tp is => (items? o).bind fun os => setAll env is os
def owned? : O → Option (List O)
  | .l os => some os
  | _ => none
/-- what a lambda keeps of its maker's slots -/
def caps? (env : Env) : List Nat → Option (List D)
  | [] => some []
  | i :: is => match getE env i with
    | some (.z d) => (caps? env is).map (d :: ·)
    | _ => none
def intD : D → Option Int
  | .int i => some i
  | _ => none
def ofOpt {α : Type} (o : Option α) (env : Env) : R α := match o with
  | some a => .ok a env
  | none => .no
@[simp] theorem ofOpt_some {α : Type} (a : α) (env : Env) : ofOpt (some a) env = .ok a env := rfl
@[simp] theorem ofOpt_none {α : Type} (env : Env) : ofOpt (none : Option α) env = .no := rfl
def O.isZ : O → Bool
  | .z _ => true
  | _ => false
/-- an owned list to which something may be put -/
def O.isLs : O → Bool
  | .l os => lenOk os
  | _ => false
/-- an argument: a value, or the owned list of a slot -/
inductive Ar where
  | val (d : D) | ref (i : Nat)
  deriving Inhabited
def Ar.slots : List Ar → List Nat
  | [] => []
  | .val _ :: r => Ar.slots r
  | .ref i :: r => i :: Ar.slots r
def Ar.fetch (env : Env) : List Ar → Option (List O)
  | [] => some []
  | .val d :: r => (Ar.fetch env r).map (.z d :: ·)
  | .ref i :: r => match getE env i with
    | some (.l os) => if os.all O.isZ then (Ar.fetch env r).map (.l os :: ·) else none
    | _ => none
def Ar.isRef : Ar → Bool
  | .val _ => false
  | .ref _ => true
/-- behind a call -/
def back0 (p : Bool) (old new : Env) : CR → R O
  | .rt o [] => if p && o.clean then .ok o old else .ok o new
  | .rt _ _ => .no
  | .ex c ds => .ex c ds
  | .no => .no
def back1 (new : Env) (i : Nat) : CR → R O
  | .rt o [.l us] => .ok o (new.set i (some (.l us)))
  | .rt _ _ => .no
  | .ex c ds => .ex c ds
  | .no => .no
def doCall (C : Cfg) (p : Bool) (f : Nat) (old new : Env) (as : List Ar) : R O :=
  if as.map Ar.isRef = C.sig f then
    match Ar.fetch new as with
    | some os => match Ar.slots as with
      | [] => back0 p old new (C.call f os)
      | [i] => if p then .no else back1 new i (C.call f os)
      | _ => .no
    | none => .no
  else .no
/-- the values in the parameters' order -/
def permA (os us : List O) (perm : List Nat) : List Ar := perm.map fun j => .val ((os ++ us).getD j (.z .non)).toD
/-! ### the evaluator -/
/-! nothing that stood there is changed -/
mutual
def pureX : X → Bool
  | .tup es => pureXs es
  | .lst es => pureXs es
  | .bin _ a b => pureX a && pureX b
  | .neg a => pureX a
  | .cmp _ a b => pureX a && pureX b
  | .cmp2 _ _ a b c => pureX a && pureX b && pureX c
  | .and es => pureXs es
  | .or es => pureXs es
  | .not a => pureX a
  | .ite c a b => pureX c && pureX a && pureX b
  | .ix a i => pureX a && pureX i
  | .sl a lo hi => pureX a && pureXo lo && pureXo hi
  | .rev a => pureX a
  | .call p _ es => p && pureXs es
  | .callk _ es ks _ => pureXs es && pureXs ks
  | .callv _ es => pureXs es
  | .blt _ es => pureXs es
  | .lrange it => pureIt it
  | .isi _ a => pureX a
  | .bits a => pureX a
  | .comp elt _ it c _ => pureX elt && pureIt it && pureXo c
  | .pop _ => false
  | .popAt _ _ => false
  | .lam _ _ => false
  | .idx _ b => pureX b
  | .ix2 _ a b => pureX a && pureX b
  | _ => true
def pureXs : Xs → Bool
  | .nil => true
  | .cons e es => pureX e && pureXs es
def pureXo : Xo → Bool
  | .none => true
  | .some e => pureX e
def pureIt : It → Bool
  | .seq a => pureX a
  | .rng1 a => pureX a
  | .rng2 a b => pureX a && pureX b
  | .rng3 a b c => pureX a && pureX b && pureX c
  | .enum a => pureX a
end
def O.flat : O → Bool
  | .z _ => true
  | .l os => os.all O.isZ
  | .t os => os.all O.isZ
/-- a value that is only looked at; pu: nothing is changed before it is used -/
def viewE (pu : Bool) (a : X) (r : R O) (env : Env) : R D := match a with
  | .v i => match getE env i with
    | some (.z d) => .ok d env
    | some o => if pu && o.flat then .ok o.toD env else r.bind fun o env1 => .ok o.toD env1
    | none => .no
  | _ => r.bind fun o env1 => .ok o.toD env1
/-- a list in a slot, looked at -/
def seen (env : Env) (i : Nat) : R D := match getE env i with
  | some (.z d) => .ok d env
  | some o => if o.flat then .ok o.toD env else .no
  | none => .no
/-- an item of an item, no list within -/
def ix1V : D → Int → Option D
  | .lst ds, j => L2.atI ds j
  | .tup ds, j => L2.atI ds j
  | _, _ => none
def ix1L (e : D) (k : Int) : Option D := (ix1V e k).bind fun x => if x.lf then some x else none
def evalComp (elt : Env → R O) (t : Tg) (cond : Env → R O) (own : List Nat) : List D → Env → List O → R (List O)
  | [], env, acc => .ok acc env
  | d :: ds, env, acc => match tgE t (.z d) env with
    | some env1 => (cond env1).nox.bind fun x env2 => match x with
      | .z (.bl true) => if lenOk acc then (elt env2).nox.bind fun o env3 => evalComp elt t cond own ds (wipeE env3 own) (acc ++ [o]) else .no
      | .z (.bl false) => evalComp elt t cond own ds (wipeE env2 own) acc
      | _ => .no
    | none => .no
mutual
def evalE (C : Cfg) : X → Env → R O
  | .v i, env => match getE env i with
    | some (.z d) => .ok (.z d) env
    | some o => .ok (frz o) (env.set i (some (frz o)))
    | none => .no
  | .non, env => .ok (.z .non) env
  | .tt b, env => .ok (.z (.bl b)) env
  | .n i, env => .ok (.z (.int i)) env
  | .s x, env => .ok (.z (.str x)) env
  | .g f, env => .ok (.z (.fn f)) env
  | .gk _ i, env => .ok (.z (.int i)) env
  | .lam f is, env => ofOpt ((caps? env is).map fun ds => .z (.clo f ds)) env
  | .tup es, env => (evalEs C es env).bind fun os env1 => .ok (if os.all O.isZ then .z (.tup (O.toDs os)) else .t os) env1
  | .lst es, env => (evalEs C es env).bind fun os env1 => .ok (.l os) env1
  | .bin o a b, env => (viewE (pureX b) a (evalE C a env) env).bind fun x env1 => (viewE true b (evalE C b env1) env1).bind fun y env2 => ofOpt (binop o x y) env2
  | .neg a, env => (evalE C a env).bind fun x env1 => match x with
    | .z (.int i) => .ok (.z (.int (-i))) env1
    | _ => .no
  | .cmp o a b, env => (viewE (pureX b) a (evalE C a env) env).bind fun x env1 => (viewE true b (evalE C b env1) env1).bind fun y env2 => ofOpt ((cmpop o x y).map fun b => .z (.bl b)) env2
  | .cmp2 o p a b c, env => (viewE (pureX b) a (evalE C a env) env).bind fun x env1 => (viewE (pureX c) b (evalE C b env1) env1).bind fun y env2 => match cmpop o x y with
    | some false => .ok (.z (.bl false)) env2
    | some true => (viewE true c (evalE C c env2) env2).bind fun w env3 => ofOpt ((cmpop p y w).map fun b => .z (.bl b)) env3
    | none => .no
  | .and es, env => evalAnd C es env
  | .or es, env => evalOr C es env
  | .not a, env => (evalE C a env).bind fun x env1 => match x with
    | .z (.bl b) => .ok (.z (.bl (!b))) env1
    | _ => .no
  | .ite c a b, env => (evalE C c env).bind fun x env1 => match x with
    | .z (.bl true) => evalE C a env1
    | .z (.bl false) => evalE C b env1
    | _ => .no
  | .ix a i, env => (viewE (pureX i) a (evalE C a env) env).bind fun x env1 => (evalE C i env1).bind fun k env2 => match x, k with
    | .lst ds, .z (.int j) => ofOpt ((L2.atI ds j).map .z) env2
    | .tup ds, .z (.int j) => ofOpt ((L2.atI ds j).map .z) env2
    | .scr ns, .z (.int j) => ofOpt ((L2.atI ns j).map fun n => .z (.int n)) env2
    | _, _ => .no
  | .sl a lo hi, env => (viewE (pureXo lo && pureXo hi) a (evalE C a env) env).bind fun x env1 => (evalPart C lo env1).bind fun l env2 => (evalPart C hi env2).bind fun h env3 => match x with
    | .lst ds => .ok (.l ((cutL ds l h).map .z)) env3
    | .scr ns => .ok (.l ((cutL ns l h).map fun n => .z (.int n))) env3
    | _ => .no
  | .rev a, env => (viewE true a (evalE C a env) env).bind fun x env1 => match x with
    | .lst ds => .ok (.l (ds.reverse.map .z)) env1
    | _ => .no
  | .call p f es, env => (evalArgs C es (C.sig f) env).bind fun as env1 => doCall C p f env env1 as
  | .callk f es ks perm, env => (evalEs C es env).bind fun os env1 => (evalEs C ks env1).bind fun us env2 =>
      doCall C true f env env2 (permA os us perm)
  | .callv i es, env => match getE env i with
    | some (.z (.fn f)) => (evalArgs C es (C.sig f) env).bind fun as env1 => doCall C true f env env1 as
    | some (.z (.clo f ds)) => (evalArgs C es ((C.sig f).drop ds.length) env).bind fun as env1 => doCall C true f env env1 (ds.map .val ++ as)
    | _ => .no
  | .blt b es, env => (evalVs C es env).bind fun ds env1 => ofOpt (bltV b ds) env1
  | .attr i, env => match getE env i with
    | some (.z (.exc _ [d])) => .ok (.z d) env
    | _ => .no
  | .isc c i, env => match getE env i with
    | some (.z (.exc k [_])) => .ok (.z (.bl (k == c))) env
    | _ => .no
  | .idx i b, env => (seen env i).bind fun x env1 => match x with
    | .lst ds => (evalE C b env1).bind fun y env2 => match y with
      | .z (.int k) => ofOpt ((idxI ds k).map fun j => .z (.int (j : Nat))) env2
      | _ => .no
    | _ => .no
  | .ix2 i a b, env => match getE env i with
    | some o => (evalE C a env).bind fun x env1 => match x with
      | .z (.int j) => match ix1V o.toD j with
        | some e => (evalE C b env1).bind fun y env2 => match y with
          | .z (.int k) => ofOpt ((ix1L e k).map .z) env2
          | _ => .no
        | none => .no
      | _ => .no
    | none => .no
  | .lrange it, env => (evalIt C it env).bind fun ds env1 => if lenOk ds then .ok (.l (ds.map .z)) env1 else .no
  | .isi t a, env => (viewE true a (evalE C a env) env).bind fun x env1 => ofOpt ((isiV t x).map fun b => .z (.bl b)) env1
  | .bits a, env => (evalE C a env).bind fun x env1 => match x with
    | .z (.int i) => .ok (.z (.int (Builtin.Int.intBits i))) env1
    | _ => .no
  | .comp elt t it c own, env => (evalIt C it env).bind fun ds env1 =>
      (evalComp (fun e => evalE C elt e) t (fun e => evalCond C c e) own ds (wipeE env1 own) []).bind fun os env2 =>
        .ok (.l os) (if (pureX elt && pureIt it && pureXo c) && O.cleans os then env else restore env1 env2 own)
  | .pop i, env => match getE env i with
    | some (.l os) => match os[os.length - 1]? with
      | some o => .ok o (env.set i (some (.l os.dropLast)))
      | none => .no
    | _ => .no
  | .popAt i k, env => match getE env i with
    | some (.l _) => (evalE C k env).bind fun x env1 => match x, getE env1 i with
      | .z (.int j), some (.l os) => match (if lenOk os then L2.ixN os.length j else none) with
        | some q => match os[q]? with
          | some o => .ok o (env1.set i (some (.l (os.eraseIdx q))))
          | none => .no
        | none => .no
      | _, _ => .no
    | _ => .no
def evalEs (C : Cfg) : Xs → Env → R (List O)
  | .nil, env => .ok [] env
  | .cons e es, env => (evalE C e env).bind fun o env1 => (evalEs C es env1).bind fun os env2 => .ok (o :: os) env2
def evalVs (C : Cfg) : Xs → Env → R (List D)
  | .nil, env => .ok [] env
  | .cons e es, env => (viewE (pureXs es) e (evalE C e env) env).bind fun o env1 => (evalVs C es env1).bind fun os env2 => .ok (o :: os) env2
def evalAnd (C : Cfg) : Xs → Env → R O
  | .nil, _ => .no
  | .cons e .nil, env => evalE C e env
  | .cons e es, env => (evalE C e env).bind fun x env1 => match x with
    | .z (.bl true) => evalAnd C es env1
    | .z (.bl false) => .ok (.z (.bl false)) env1
    | _ => .no
def evalOr (C : Cfg) : Xs → Env → R O
  | .nil, _ => .no
  | .cons e .nil, env => evalE C e env
  | .cons e es, env => (evalE C e env).bind fun x env1 => match x with
    | .z (.bl false) => evalOr C es env1
    | .z (.bl true) => .ok (.z (.bl true)) env1
    | _ => .no
def evalPart (C : Cfg) : Xo → Env → R (Option Int)
  | .none, env => .ok none env
  | .some e, env => (evalE C e env).bind fun o env1 => match o with
    | .z (.int i) => .ok (some i) env1
    | _ => .no
def evalCond (C : Cfg) : Xo → Env → R O
  | .none, env => .ok (.z (.bl true)) env
  | .some e, env => evalE C e env
def evalArgs (C : Cfg) : Xs → List Bool → Env → R (List Ar)
  | .nil, ms, env => match ms with
    | [] => .ok [] env
    | _ => .no
  | .cons e es, ms, env => match ms with
    | [] => .no
    | false :: ms => (evalE C e env).bind fun o env1 => (evalArgs C es ms env1).bind fun as env2 => .ok (.val o.toD :: as) env2
    | true :: ms => match e with
      | .v i => match getE env i with
        | some _ => (evalArgs C es ms env).bind fun as env2 => .ok (.ref i :: as) env2
        | none => .no
      | _ => .no
/-- the items that a loop walks -/
def evalIt (C : Cfg) : It → Env → R (List D)
  | .seq a, env => (evalE C a env).bind fun o env1 => match o.toD with
    | .lst ds => .ok ds env1
    | .tup ds => .ok ds env1
    | _ => .no
  | .rng1 a, env => (evalE C a env).bind fun o env1 => match o with
    | .z (.int n) => if rngOk n then .ok (rangeL 0 1 n.toNat) env1 else .no
    | _ => .no
  | .rng2 a b, env => (evalE C a env).bind fun o env1 => (evalE C b env1).bind fun u env2 => match o, u with
    | .z (.int m), .z (.int n) => if rngOk m && rngOk n then .ok (rangeL m 1 (n - m).toNat) env2 else .no
    | _, _ => .no
  | .rng3 a b c, env => .no
  | .enum a, env => (evalE C a env).bind fun o env1 => match o.toD with
    | .lst ds => .ok (enumL 0 ds) env1
    | _ => .no
end
def Out.ofR (r : R O) (f : O → Env → Out) : Out := match r with
  | .ok o env => f o env
  | .ex c ds => .ex c ds
  | .no => .no
@[simp] theorem Out.ofR_ok (o : O) (env : Env) (f : O → Env → Out) : Out.ofR (.ok o env) f = f o env := rfl
def evalFor (t : Tg) (body : Env → Out) : List D → Env → Out
  | [], env => .nx env
  | d :: ds, env => match tgE t (.z d) env with
    | some env1 => match body env1 with
      | .nx env2 => evalFor t body ds env2
      | r => r
    | none => .no
def evalWhile (test : Env → R O) (body : Env → Out) : Nat → Env → Out
  | 0, _ => .no
  | n + 1, env => Out.ofR (test env) fun x env1 => match x with
    | .z (.bl true) => match body env1 with
      | .nx env2 => evalWhile test body n env2
      | r => r
    | .z (.bl false) => .nx env1
    | _ => .no
/-- what stands for good -/
def stay (env : Env) : Env := env.map fun | some (.z d) => some (.z d) | _ => none
def Out.ofO (o : Option Env) : Out := match o with
  | some e => .nx e
  | none => .no
mutual
def evalS (C : Cfg) (W : Nat) : S → Env → Out
  | .set i e, env => Out.ofR (evalE C e env) fun o env1 => .nx (env1.set i (some o))
  | .asg is e, env => Out.ofR (evalE C e env) fun o env1 => Out.ofO (tgE (.tp is) o env1)
  | .par is es, env => match evalEs C es env with
    | .ok os env1 => Out.ofO (setAll env1 is os)
    | .ex c ds => .ex c ds
    | .no => .no
  | .sto i k e, env => Out.ofR (evalE C e env) fun o env1 => match getE env1 i with
    | some (.l _) => Out.ofR (evalE C k env1) fun x env2 => match x, getE env2 i with
      | .z (.int j), some (.l os) => match L2.ixN os.length j with
        | some q => .nx (env2.set i (some (.l (os.set q o))))
        | none => .no
      | _, _ => .no
    | _ => .no
  | .app i e, env => match getE env i with
    | some (.l _) => Out.ofR (evalE C e env) fun o env1 => match getE env1 i with
      | some (.l os) => if lenOk os then .nx (env1.set i (some (.l (os ++ [o])))) else .no
      | _ => .no
    | _ => .no
  | .expr e, env => Out.ofR (evalE C e env) fun _ env1 => .nx env1
  | .ret (.v i), env => match getE env i with
    | some o => .rt o (env.set i none)
    | none => .no
  | .ret e, env => Out.ofR (evalE C e env) fun o env1 => .rt o env1
  | .ret0, env => .rt (.z .non) env
  | .ite c a b, env => Out.ofR (evalE C c env) fun x env1 => match x with
    | .z (.bl true) => evalSs C W a env1
    | .z (.bl false) => evalSs C W b env1
    | _ => .no
  | .for t it b, env => match evalIt C it env with
    | .ok ds env1 => evalFor t (fun e => evalSs C W b e) ds env1
    | .ex c ds => .ex c ds
    | .no => .no
  | .whl c b, env => evalWhile (fun e => evalE C c e) (fun e => evalSs C W b e) W env
  | .pass, env => .nx env
  | .never, _ => .no
  | .raise c e, env => Out.ofR (evalE C e env) fun o _ => .ex c [o.toD]
  | .tryE i j e, env => match evalE C e env with
    | .ok _ env1 => .nx env1
    | .ex c [d] => .nx (((stay env).set j (some (.z (.exc c [d])))).set i none)
    | _ => .no
  | .each i j _, env => match getE env i with
    | some (.l os) => if i != j && os.all O.isLs then .nx ((env.set i none).set j none) else .no
    | _ => .no
def evalSs (C : Cfg) (W : Nat) : Ss → Env → Out
  | .nil, env => .nx env
  | .cons s r, env => match evalS C W s env with
    | .nx env1 => evalSs C W r env1
    | o => o
end
/-! ### defs -/
structure Fd where
  modes : List Bool
  slots : Nat
  body : Ss
/-- the owned parameters behind a call -/
def outs? (env : Env) : List Bool → Nat → Option (List O)
  | [], _ => some []
  | false :: ms, i => outs? env ms (i + 1)
  | true :: ms, i => match getE env i with
    | some (.l os) => (outs? env ms (i + 1)).map (.l os :: ·)
    | _ => none
def finish (ms : List Bool) : Out → CR
  | .nx env => match outs? env ms 0 with
    | some outs => .rt (.z .non) outs
    | none => .no
  | .rt o env => match outs? env ms 0 with
    | some outs => .rt o outs
    | none => .no
  | .ex c ds => .ex c ds
  | .no => .no
def runF (C : Cfg) (W : Nat) (F : Fd) (os : List O) : CR :=
  if os.length = F.modes.length then finish F.modes (evalSs C W F.body (os.map some ++ List.replicate (F.slots - os.length) none)) else .no
/-- calls within calls, to a depth -/
def G (T : Nat → Option Fd) (W : Nat) : Nat → Nat → List O → CR
  | 0, _, _ => .no
  | n + 1, f, os => match T f with
    | some F => runF ⟨G T W n, fun g => match T g with | some F => F.modes | none => []⟩ W F os
    | none => .no
def sigT (T : Nat → Option Fd) (g : Nat) : List Bool := match T g with | some F => F.modes | none => []
def cfg (T : Nat → Option Fd) (W n : Nat) : Cfg := ⟨G T W n, sigT T⟩
end RF
/-! RFb: how values stand in the heap. -/
namespace RF
open L2 PySem PySem.Spec PyProof.Rows
/-- what is fixed of a lambda -/
structure LamD where
  qual : Str
  params : Arguments
  body : Expr
  scope : Scope
/-- where the defs of the text stand; which lambdas bear which number -/
structure Fns where
  at_ : Nat → Option Addr
  ml : Nat → LamD → Prop
  ca : Nat → Option Addr
instance : CoeFun Fns (fun _ => Nat → Option Addr) := ⟨Fns.at_⟩
abbrev LamD.fd (L : LamD) (c : Addr) (pm ctv : Value) : FuncData := PySem.W.kla_fn "<lambda>" L.qual L.params L.body L.scope [] pm (.ref c) ctv
/-- the object at f is this lambda -/
def LamO (f c : Addr) (L : LamD) (pm ctv : Value) : HO := .ext fun h => ∃ (od : Option Addr) (sl : Array (Option Value)), h.get? f = some (⟨.type "function", od, .func (L.fd c pm ctv), sl⟩ : Obj)
mutual
inductive Rep (K : PySem.W.Frag) (FA : Fns) (F : Hp) : V → D → Prop
  | non : Rep K FA F .non .non
  | bl (b : Bool) : Rep K FA F (.bl b) (.bl b)
  | int (i : Int) : Rep K FA F (.int i) (.int i)
  | str (x : Str) : Rep K FA F (.str x) (.str x)
  | lst {a : Addr} {vs : List V} {ds : List D} : F a = some (.lst vs) → Reps K FA F vs ds → Rep K FA F (.ref a) (.lst ds)
  | tup {a : Addr} {vs : List V} {ds : List D} : F a = some (.tup vs) → Reps K FA F vs ds → Rep K FA F (.ref a) (.tup ds)
  | scr {a : Addr} {ns : List Int} : SqL K F a (ns.map V.int) → Rep K FA F (.ref a) (.scr ns)
  | fn {f : Nat} {a : Addr} : FA f = some a → Rep K FA F (.ref a) (.fn f)
  | clo {k : Nat} {f c : Addr} {L : LamD} {pm ctv : Value} : FA.ml k L → F f = some (LamO f c L pm ctv) → F c = some (LamX.CodeO c L.qual) → Rep K FA F (.ref f) (.clo k [])
  | exc {c : Nat} {a C dx : Addr} {v : V} {d : D} : FA.ca c = some C → F a = some (RX.exk (.ref C) (some dx) a) → F dx = some (.xd [("value", v)]) → Rep K FA F v d → Rep K FA F (.ref a) (.exc c [d])
inductive Reps (K : PySem.W.Frag) (FA : Fns) (F : Hp) : List V → List D → Prop
  | nil : Reps K FA F [] []
  | cons {v : V} {vs : List V} {d : D} {ds : List D} : Rep K FA F v d → Reps K FA F vs ds → Reps K FA F (v :: vs) (d :: ds)
end
mutual
inductive RepO (K : PySem.W.Frag) (FA : Fns) (F H : Hp) : V → O → List Addr → Prop
  | z {v : V} {d : D} : Rep K FA F v d → RepO K FA F H v (.z d) []
  | l {a : Addr} {vs : List V} {os : List O} {A : List Addr} : H a = some (.lst vs) → RepOs K FA F H vs os A → RepO K FA F H (.ref a) (.l os) (a :: A)
  | t {a : Addr} {vs : List V} {os : List O} {A : List Addr} : H a = some (.tup vs) → RepOs K FA F H vs os A → RepO K FA F H (.ref a) (.t os) A
inductive RepOs (K : PySem.W.Frag) (FA : Fns) (F H : Hp) : List V → List O → List Addr → Prop
  | nil : RepOs K FA F H [] [] []
  | cons {v : V} {vs : List V} {o : O} {os : List O} {A B : List Addr} : RepO K FA F H v o A → RepOs K FA F H vs os B → RepOs K FA F H (v :: vs) (o :: os) (A ++ B)
end
inductive RepL (K : PySem.W.Frag) (FA : Fns) (F H : Hp) : List (Option V × O) → List Addr → Prop
  | nil : RepL K FA F H [] []
  | cons {v : V} {o : O} {ps : List (Option V × O)} {A B : List Addr} : RepO K FA F H v o A → RepL K FA F H ps B → RepL K FA F H ((some v, o) :: ps) (A ++ B)
def Sub (F H : Hp) : Prop := ∀ a o, F a = some o → H a = some o
theorem Sub.refl (F : Hp) : Sub F F := fun _ _ h => h
theorem Sub.trans {F G H : Hp} (a : Sub F G) (b : Sub G H) : Sub F H := fun c o h => b c o (a c o h)
/-- the tuples stay -/
def Tups (H H' : Hp) : Prop := ∀ a xs, H a = some (.tup xs) → H' a = some (.tup xs)
theorem Sub.tups {H H' : Hp} (h : Sub H H') : Tups H H' := fun a xs e => h a _ e
section
variable {K : PySem.W.Frag} {FA : Fns} {F F' H H' : Hp}
theorem SqL.sub {a : Addr} {xs : List V} (s : Sub F F') (h : SqL K F a xs) : SqL K F' a xs := by
  rcases h with (h | ⟨o, h⟩) | h
  · exact .inl (.inl (s _ _ h))
  · exact .inl (.inr ⟨o, s _ _ h⟩)
  · exact .inr h
mutual
theorem Rep.mono (s : Sub F F') : ∀ {d : D} {v : V}, Rep K FA F v d → Rep K FA F' v d
  | _, _, .non => .non
  | _, _, .bl b => .bl b
  | _, _, .int i => .int i
  | _, _, .str x => .str x
  | _, _, .lst h r => .lst (s _ _ h) (Reps.mono s r)
  | _, _, .tup h r => .tup (s _ _ h) (Reps.mono s r)
  | _, _, .scr h => .scr (SqL.sub s h)
  | _, _, .fn h => .fn h
  | _, _, .clo h1 h2 h3 => .clo h1 (s _ _ h2) (s _ _ h3)
  | _, _, .exc h1 h2 h3 r => .exc h1 (s _ _ h2) (s _ _ h3) (Rep.mono s r)
theorem Reps.mono (s : Sub F F') : ∀ {ds : List D} {vs : List V}, Reps K FA F vs ds → Reps K FA F' vs ds
  | _, _, .nil => .nil
  | _, _, .cons h r => .cons (Rep.mono s h) (Reps.mono s r)
end
mutual
/-- where no list is within, the tuples are enough -/
theorem Rep.lf (t : Tups F F') : ∀ {d : D} {v : V}, d.lf = true → Rep K FA F v d → Rep K FA F' v d
  | _, _, _, .non => .non
  | _, _, _, .bl b => .bl b
  | _, _, _, .int i => .int i
  | _, _, _, .str x => .str x
  | _, _, e, .lst h r => by simp [D.lf] at e
  | _, _, e, .tup h r => .tup (t _ _ h) (Reps.lf t (by simpa [D.lf] using e) r)
  | _, _, e, .scr h => by simp [D.lf] at e
  | _, _, _, .fn h => .fn h
theorem Reps.lf (t : Tups F F') : ∀ {ds : List D} {vs : List V}, D.lfs ds = true → Reps K FA F vs ds → Reps K FA F' vs ds
  | _, _, _, .nil => .nil
  | _, _, e, .cons h r => by
    have e' := by simpa [D.lfs] using e
    exact .cons (Rep.lf t e'.1 h) (Reps.lf t e'.2 r)
end
theorem Reps.length : ∀ {ds : List D} {vs : List V}, Reps K FA F vs ds → vs.length = ds.length
  | _, _, .nil => rfl
  | _, _, .cons _ r => by simp [r.length]
theorem Reps.get {d : D} : ∀ {ds : List D} {vs : List V} {i : Nat}, Reps K FA F vs ds → ds[i]? = some d → ∃ v, vs[i]? = some v ∧ Rep K FA F v d
  | _, _, _, .nil, e => by simp at e
  | _, _, 0, .cons h r, e => by simp at e; subst e; exact ⟨_, rfl, h⟩
  | _, _, i + 1, .cons h r, e => by
    obtain ⟨v, e1, h1⟩ := Reps.get (i := i) r (by simpa using e)
    exact ⟨v, by simpa using e1, h1⟩
theorem Reps.append : ∀ {ds es : List D} {vs us : List V}, Reps K FA F vs ds → Reps K FA F us es → Reps K FA F (vs ++ us) (ds ++ es)
  | _, _, _, _, .nil, s => s
  | _, _, _, _, .cons h r, s => .cons h (Reps.append r s)
theorem Reps.take : ∀ {ds : List D} {vs : List V} (n : Nat), Reps K FA F vs ds → Reps K FA F (vs.take n) (ds.take n)
  | _, _, 0, _ => .nil
  | _, _, _ + 1, .nil => .nil
  | _, _, n + 1, .cons h r => .cons h (Reps.take n r)
theorem Reps.drop : ∀ {ds : List D} {vs : List V} (n : Nat), Reps K FA F vs ds → Reps K FA F (vs.drop n) (ds.drop n)
  | _, _, 0, r => r
  | _, _, _ + 1, .nil => .nil
  | _, _, n + 1, .cons _ r => Reps.drop n r
theorem Reps.reverse : ∀ {ds : List D} {vs : List V}, Reps K FA F vs ds → Reps K FA F vs.reverse ds.reverse
  | _, _, .nil => .nil
  | _, _, .cons h r => by simp only [List.reverse_cons]; exact Reps.append r.reverse (.cons h .nil)
theorem Reps.rep {ds : List D} {vs : List V} (h : Reps K FA F vs ds) : ∀ k : Nat, Reps K FA F (List.replicate k vs).flatten (List.replicate k ds).flatten
  | 0 => .nil
  | k + 1 => by simp only [List.replicate_succ, List.flatten_cons]; exact Reps.append h (h.rep k)
theorem Reps.ints : ∀ {ns : List Int}, Reps K FA F (ns.map V.int) (ns.map D.int)
  | [] => .nil
  | _ :: _ => .cons (.int _) Reps.ints
theorem Reps.of_ints {vs : List V} : ∀ {ds : List D} {ns : List Int}, Reps K FA F vs ds → ints? ds = some ns → vs = ns.map V.int ∧ ds = ns.map D.int := by
  induction vs with
  | nil => intro ds ns r e; cases r; simp [ints?] at e; subst e; exact ⟨rfl, rfl⟩
  | cons v vs ih =>
    intro ds ns r e
    cases r with
    | cons h r =>
      rename_i d ds
      cases h <;> simp [ints?] at e
      obtain ⟨ms, e1, rfl⟩ := e
      obtain ⟨h1, h2⟩ := ih r e1
      exact ⟨by rw [h1]; rfl, by rw [h2]; rfl⟩
theorem Reps.of_bls {vs : List V} : ∀ {ds : List D} {ns : List Bool}, Reps K FA F vs ds → bls? ds = some ns → vs = ns.map V.bl := by
  induction vs with
  | nil => intro ds ns r e; cases r; simp [bls?] at e; subst e; rfl
  | cons v vs ih =>
    intro ds ns r e
    cases r with
    | cons h r =>
      rename_i d ds
      cases h <;> simp [bls?] at e
      obtain ⟨ms, e1, rfl⟩ := e
      rw [ih r e1]; rfl
mutual
theorem RepO.frame : ∀ {o : O} {v : V} {A : List Addr}, RepO K FA F H v o A → Sub F F' → (∀ a ∈ A, H' a = H a) → Tups H H' → RepO K FA F' H' v o A
  | _, _, _, .z h, s, _, _ => .z (h.mono s)
  | _, _, _, .l h r, s, k, t => .l (by rw [k _ (List.mem_cons_self)]; exact h) (RepOs.frame r s (fun a m => k a (List.mem_cons_of_mem _ m)) t)
  | _, _, _, .t h r, s, k, t => .t (t _ _ h) (RepOs.frame r s k t)
theorem RepOs.frame : ∀ {os : List O} {vs : List V} {A : List Addr}, RepOs K FA F H vs os A → Sub F F' → (∀ a ∈ A, H' a = H a) → Tups H H' → RepOs K FA F' H' vs os A
  | _, _, _, .nil, _, _, _ => .nil
  | _, _, _, .cons h r, s, k, t => .cons (RepO.frame h s (fun a m => k a (List.mem_append_left _ m)) t) (RepOs.frame r s (fun a m => k a (List.mem_append_right _ m)) t)
end
theorem RepL.frame : ∀ {ps : List (Option V × O)} {A : List Addr}, RepL K FA F H ps A → Sub F F' → (∀ a ∈ A, H' a = H a) → Tups H H' → RepL K FA F' H' ps A
  | _, _, .nil, _, _, _ => .nil
  | _, _, .cons h r, s, k, t => .cons (RepO.frame h s (fun a m => k a (List.mem_append_left _ m)) t) (RepL.frame r s (fun a m => k a (List.mem_append_right _ m)) t)
mutual
/-- the owned addresses stand in the heap -/
theorem RepO.dom : ∀ {o : O} {v : V} {A : List Addr}, RepO K FA F H v o A → ∀ a ∈ A, ∃ xs, H a = some (.lst xs)
  | _, _, _, .z _, a, m => by cases m
  | _, _, _, .l h r, a, m => by
    rcases List.mem_cons.mp m with e | m
    · exact ⟨_, by rw [e]; exact h⟩
    · exact RepOs.dom r a m
  | _, _, _, .t _ r, a, m => RepOs.dom r a m
theorem RepOs.dom : ∀ {os : List O} {vs : List V} {A : List Addr}, RepOs K FA F H vs os A → ∀ a ∈ A, ∃ xs, H a = some (.lst xs)
  | _, _, _, .nil, a, m => by cases m
  | _, _, _, .cons h r, a, m => (List.mem_append.mp m).elim (RepO.dom h a) (RepOs.dom r a)
end
theorem RepL.dom : ∀ {ps : List (Option V × O)} {A : List Addr}, RepL K FA F H ps A → ∀ a ∈ A, ∃ xs, H a = some (.lst xs)
  | _, _, .nil, a, m => by cases m
  | _, _, .cons h r, a, m => (List.mem_append.mp m).elim (RepO.dom h a) (RepL.dom r a)
mutual
/-- seen as it lies in the whole heap -/
theorem RepO.view (s : Sub F H) : ∀ {o : O} {v : V} {A : List Addr}, RepO K FA F H v o A → Rep K FA H v o.toD
  | _, _, _, .z h => by simp only [O.toD]; exact h.mono s
  | _, _, _, .l h r => by simp only [O.toD]; exact .lst h (RepOs.view s r)
  | _, _, _, .t h r => by simp only [O.toD]; exact .tup h (RepOs.view s r)
theorem RepOs.view (s : Sub F H) : ∀ {os : List O} {vs : List V} {A : List Addr}, RepOs K FA F H vs os A → Reps K FA H vs (O.toDs os)
  | _, _, _, .nil => by simp only [O.toDs]; exact .nil
  | _, _, _, .cons h r => by simp only [O.toDs]; exact .cons (RepO.view s h) (RepOs.view s r)
end
/-- the part of the heap that stands for good, with these addresses too -/
def addF (F H : Hp) (A : List Addr) : Hp := fun a => if a ∈ A then H a else F a
theorem addF_sub (s : Sub F H) {A : List Addr} : Sub F (addF F H A) := fun a o e => by
  unfold addF
  split
  · exact s a o e
  · exact e
theorem addF_subH (s : Sub F H) {A : List Addr} : Sub (addF F H A) H := fun a o e => by
  unfold addF at e
  split at e
  · exact e
  · exact s a o e
theorem addF_mono {A B : List Addr} (s : Sub F H) (h : ∀ a ∈ A, a ∈ B) : Sub (addF F H A) (addF F H B) := fun a o e => by
  unfold addF at e ⊢
  split at e
  · rename_i m; rw [if_pos (h a m)]; exact e
  · split
    · exact s a o e
    · exact e
mutual
theorem RepO.frozen (s : Sub F H) (t : Tups H F) : ∀ {o : O} {v : V} {A : List Addr}, RepO K FA F H v o A → Rep K FA (addF F H A) v o.toD
  | _, _, _, .z h => by simp only [O.toD]; exact h.mono (addF_sub s)
  | _, _, _, .l (a := a) h r => by
    simp only [O.toD]
    refine .lst (by unfold addF; rw [if_pos (List.mem_cons_self)]; exact h) ((RepOs.frozen s t r).mono (addF_mono s fun b m => List.mem_cons_of_mem _ m))
  | _, _, _, .t h r => by simp only [O.toD]; exact .tup (addF_sub s _ _ (t _ _ h)) (RepOs.frozen s t r)
theorem RepOs.frozen (s : Sub F H) (t : Tups H F) : ∀ {os : List O} {vs : List V} {A : List Addr}, RepOs K FA F H vs os A → Reps K FA (addF F H A) vs (O.toDs os)
  | _, _, _, .nil => by simp only [O.toDs]; exact .nil
  | _, _, _, .cons h r => by
    simp only [O.toDs]
    exact .cons ((RepO.frozen s t h).mono (addF_mono s fun b m => List.mem_append_left _ m)) ((RepOs.frozen s t r).mono (addF_mono s fun b m => List.mem_append_right _ m))
end
mutual
theorem RepO.clean (t : Tups F F') : ∀ {o : O} {v : V} {A : List Addr}, o.clean = true → RepO K FA F H v o A → RepO K FA F' H v o A
  | _, _, _, e, .z h => .z (h.lf t (by simpa [O.clean] using e))
  | _, _, _, e, .l h r => .l h (RepOs.clean t (by simpa [O.clean] using e) r)
  | _, _, _, e, .t h r => .t h (RepOs.clean t (by simpa [O.clean] using e) r)
theorem RepOs.clean (t : Tups F F') : ∀ {os : List O} {vs : List V} {A : List Addr}, O.cleans os = true → RepOs K FA F H vs os A → RepOs K FA F' H vs os A
  | _, _, _, _, .nil => .nil
  | _, _, _, e, .cons h r => by
    have e' := by simpa [O.cleans] using e
    exact .cons (RepO.clean t e'.1 h) (RepOs.clean t e'.2 r)
end
theorem RepOs.length : ∀ {os : List O} {vs : List V} {A : List Addr}, RepOs K FA F H vs os A → vs.length = os.length
  | _, _, _, .nil => rfl
  | _, _, _, .cons _ r => by simp [r.length]
/-- values only -/
theorem RepOs.of_reps : ∀ {ds : List D} {vs : List V}, Reps K FA F vs ds → RepOs K FA F H vs (ds.map .z) []
  | _, _, .nil => .nil
  | _, _, .cons h r => RepOs.cons (A := []) (.z h) (RepOs.of_reps r)
theorem RepOs.allZ : ∀ {os : List O} {vs : List V} {A : List Addr}, RepOs K FA F H vs os A → os.all O.isZ = true → A = [] ∧ Reps K FA F vs (O.toDs os)
  | _, _, _, .nil, _ => ⟨rfl, by simp only [O.toDs]; exact .nil⟩
  | _, _, _, .cons h r, e => by
    have e' := by simpa only [List.all_cons, Bool.and_eq_true] using e
    cases h with
    | z h =>
      obtain ⟨e1, e2⟩ := r.allZ e'.2
      subst e1
      exact ⟨rfl, by simp only [O.toDs, O.toD]; exact .cons h e2⟩
    | l _ _ => simp [O.isZ] at e'
    | t _ _ => simp [O.isZ] at e'
mutual
theorem RepO.uniq : ∀ {o : O} {v : V} {A B : List Addr}, RepO K FA F H v o A → RepO K FA F H v o B → A = B
  | _, _, _, _, .z _, .z _ => rfl
  | _, _, _, _, .l h r, .l h' r' => by
    rw [h] at h'; cases h'
    rw [RepOs.uniq r r']
  | _, _, _, _, .t h r, .t h' r' => by
    rw [h] at h'; cases h'
    exact RepOs.uniq r r'
theorem RepOs.uniq : ∀ {os : List O} {vs : List V} {A B : List Addr}, RepOs K FA F H vs os A → RepOs K FA F H vs os B → A = B
  | _, _, _, _, .nil, .nil => rfl
  | _, _, _, _, .cons h r, .cons h' r' => by rw [RepO.uniq h h', RepOs.uniq r r']
end
theorem RepL.uniq : ∀ {ps : List (Option V × O)} {A B : List Addr}, RepL K FA F H ps A → RepL K FA F H ps B → A = B
  | _, _, _, .nil, .nil => rfl
  | _, _, _, .cons h r, .cons h' r' => by rw [RepO.uniq h h', RepL.uniq r r']
theorem RepOs.append : ∀ {os us : List O} {vs ws : List V} {A B : List Addr}, RepOs K FA F H vs os A → RepOs K FA F H ws us B → RepOs K FA F H (vs ++ ws) (os ++ us) (A ++ B)
  | _, _, _, _, _, _, .nil, s => s
  | _, _, _, _, _, _, .cons h r, s => by
    rw [List.append_assoc]
    exact .cons h (RepOs.append r s)
/-- an item taken out -/
theorem RepOs.pick {o : O} : ∀ {os : List O} {vs : List V} {A : List Addr} {i : Nat}, RepOs K FA F H vs os A → os[i]? = some o →
    ∃ v Ao Ar, vs[i]? = some v ∧ RepO K FA F H v o Ao ∧ RepOs K FA F H (vs.eraseIdx i) (os.eraseIdx i) Ar ∧ A.Perm (Ao ++ Ar)
  | _, _, _, _, .nil, e => by simp at e
  | _, _, _, 0, .cons h r, e => by
    simp at e; subst e
    exact ⟨_, _, _, rfl, h, by simpa using r, .refl _⟩
  | _, _, _, i + 1, .cons (A := A1) h r, e => by
    obtain ⟨v, Ao, Ar, e1, h1, r1, p⟩ := RepOs.pick (i := i) r (by simpa using e)
    refine ⟨v, Ao, A1 ++ Ar, by simpa using e1, h1, by simpa using RepOs.cons h r1, ?_⟩
    refine (p.append_left A1).trans ?_
    rw [← List.append_assoc, ← List.append_assoc]
    exact List.perm_append_comm.append_right Ar
/-- an item put in the place of another -/
theorem RepOs.set {v : V} {o : O} {Ao : List Addr} (h : RepO K FA F H v o Ao) : ∀ {os : List O} {vs : List V} {A : List Addr} {i : Nat}, RepOs K FA F H vs os A → i < os.length →
    ∃ Ar, RepOs K FA F H (vs.set i v) (os.set i o) (Ar) ∧ ∃ Ad, (Ad ++ Ar).Perm (Ao ++ A)
  | _, _, _, _, .nil, e => by simp at e
  | _, _, _, 0, .cons (A := A1) (B := B1) h1 r, e => ⟨Ao ++ B1, by simpa using RepOs.cons h r, A1, by
      rw [← List.append_assoc, ← List.append_assoc]; exact List.perm_append_comm.append_right B1⟩
  | _, _, _, i + 1, .cons (A := A1) (B := B1) h1 r, e => by
    obtain ⟨Ar, r1, Ad, p⟩ := RepOs.set h (i := i) r (by simpa using e)
    refine ⟨A1 ++ Ar, by simpa using RepOs.cons h1 r1, Ad, ?_⟩
    have q1 : (Ad ++ (A1 ++ Ar)).Perm (A1 ++ (Ad ++ Ar)) := by
      rw [← List.append_assoc, ← List.append_assoc]; exact List.perm_append_comm.append_right Ar
    have q2 : (A1 ++ (Ao ++ B1)).Perm (Ao ++ (A1 ++ B1)) := by
      rw [← List.append_assoc, ← List.append_assoc]; exact List.perm_append_comm.append_right B1
    exact q1.trans ((p.append_left A1).trans q2)
theorem RepL.perm {ps qs : List (Option V × O)} (p : ps.Perm qs) : ∀ {A : List Addr}, RepL K FA F H ps A → ∃ B, RepL K FA F H qs B ∧ A.Perm B := by
  induction p with
  | nil => intro A h; exact ⟨_, h, .refl _⟩
  | cons x _ ih =>
    intro A h
    cases h with
    | cons h r =>
      obtain ⟨B, r', p⟩ := ih r
      exact ⟨_, .cons h r', p.append_left _⟩
  | swap x y l =>
    intro A h
    cases h with
    | cons h r =>
      cases r with
      | cons h' r =>
        refine ⟨_, .cons h' (.cons h r), ?_⟩
        rw [← List.append_assoc, ← List.append_assoc]
        exact List.perm_append_comm.append_right _
  | trans _ _ ih1 ih2 =>
    intro A h
    obtain ⟨B, h1, p1⟩ := ih1 h
    obtain ⟨C, h2, p2⟩ := ih2 h1
    exact ⟨C, h2, p1.trans p2⟩
theorem RepL.of_os : ∀ {os : List O} {vs : List V} {A B : List Addr} {ps : List (Option V × O)}, RepOs K FA F H vs os A → RepL K FA F H ps B → RepL K FA F H (((vs.map some).zip os) ++ ps) (A ++ B)
  | _, _, _, _, _, .nil, s => s
  | _, _, _, _, _, .cons h r, s => by
    rw [List.append_assoc]
    exact .cons h (RepL.of_os r s)
theorem RepL.to_os : ∀ {os : List O} {vs : List V} {C : List Addr} {ps : List (Option V × O)}, vs.length = os.length → RepL K FA F H (((vs.map some).zip os) ++ ps) C →
    ∃ A B, C = A ++ B ∧ RepOs K FA F H vs os A ∧ RepL K FA F H ps B
  | [], [], _, _, _, s => ⟨[], _, rfl, .nil, s⟩
  | o :: os, v :: vs, _, _, e, s => by
    cases s with
    | cons h r =>
      obtain ⟨A, B, rfl, r1, r2⟩ := RepL.to_os (by simpa using e) r
      exact ⟨_, B, by rw [List.append_assoc], .cons h r1, r2⟩
  | [], _ :: _, _, _, e, _ => by simp at e
  | _ :: _, [], _, _, e, _ => by simp at e
end
/-! ### the state of a frame -/
/-- at the entry: the heap, the owned lists that were handed in, the part that stands for good -/
structure W0 where
  H0 : Hp
  M : List Addr
  F0 : Hp
  T : List (Addr × Str)
structure HR (w : W0) (F H : Hp) : Prop where
  sub : Sub F H
  sub0 : Sub w.F0 F
  new : ∀ a o, F a = some o → w.F0 a = some o ∨ w.H0 a = none ∨ a ∈ w.M ∨ (w.H0 a = some o ∧ ∀ xs, o ≠ .lst xs)
  keep : ∀ a o, w.H0 a = some o → a ∉ w.M → H a = some o
  dom : ∀ a, H a = none → w.H0 a = none
  tups : Tups H F
  tabs : LamX.Tabs w.T H
  ntb : ∀ a ps, F a ≠ some (.tbl ps)
def Hs (K : PySem.W.Frag) (FA : Fns) (w : W0) (F H : Hp) (ps : List (Option V × O)) : Prop :=
  HR w F H ∧ ∃ A, RepL K FA F H ps A ∧ A.Nodup ∧ ∀ a ∈ A, F a = none ∧ (a ∈ w.M ∨ w.H0 a = none)
/-- the slots -/
def lv (σ : L2.St) (env : Env) : List (Option V × O) := (σ.zip env).filterMap fun p => p.2.map fun o => (p.1, o)
section
variable {K : PySem.W.Frag} {FA : Fns} {w : W0} {F F' H H' : Hp} {ps qs : List (Option V × O)} {v : V} {o : O} {d : D}
theorem Hs.perm (p : ps.Perm qs) (s : Hs K FA w F H ps) : Hs K FA w F H qs := by
  obtain ⟨hr, A, r, nd, q⟩ := s
  obtain ⟨B, r', p'⟩ := r.perm p
  exact ⟨hr, B, r', p'.nodup_iff.mp nd, fun a m => q a (p'.mem_iff.mpr m)⟩
theorem Hs.tail {p : Option V × O} (s : Hs K FA w F H (p :: ps)) : Hs K FA w F H ps := by
  obtain ⟨hr, A, r, nd, q⟩ := s
  cases r with
  | cons h r => exact ⟨hr, _, r, (List.nodup_append.mp nd).2.1, fun a m => q a (List.mem_append_right _ m)⟩
theorem Hs.head (s : Hs K FA w F H ((some v, o) :: ps)) : ∃ A, RepO K FA F H v o A := by
  obtain ⟨hr, A, r, nd, q⟩ := s
  cases r with
  | cons h r => exact ⟨_, h⟩
theorem Hs.isSome {u : Option V} (s : Hs K FA w F H ((u, o) :: ps)) : ∃ v, u = Option.some v := by
  obtain ⟨hr, A, r, nd, q⟩ := s
  cases r
  exact ⟨_, rfl⟩
theorem Hs.rep (s : Hs K FA w F H ((some v, .z d) :: ps)) : Rep K FA F v d := by
  obtain ⟨A, h⟩ := s.head
  cases h
  assumption
theorem Hs.view (s : Hs K FA w F H ((some v, o) :: ps)) : Rep K FA H v o.toD := by
  obtain ⟨A, h⟩ := s.head
  exact h.view s.1.sub
theorem Hs.add (s : Hs K FA w F H ps) (h : Rep K FA F v d) : Hs K FA w F H ((some v, .z d) :: ps) := by
  obtain ⟨hr, A, r, nd, q⟩ := s
  exact ⟨hr, A, RepL.cons (A := []) (.z h) r, nd, q⟩
theorem Tabs.stay {T : List (Addr × Str)} (t : LamX.Tabs T H) (e : ∀ b o, H b = some o → (∀ xs, o ≠ .lst xs) → H' b = some o) : LamX.Tabs T H' := fun p hp => by
  obtain ⟨ps, h1, h2, h3⟩ := t p hp
  refine ⟨ps, e _ _ h1 (fun xs z => by cases z), h2, fun pos cv hc => ?_⟩
  obtain ⟨c, e1, e2⟩ := h3 pos cv hc
  exact ⟨c, e1, e _ _ e2 (fun xs z => by unfold LamX.CodeO at z; cases z)⟩
/-- what is owned stands for good from now on -/
theorem Hs.freeze (s : Hs K FA w F H ((some v, o) :: ps)) : ∃ F', Sub F F' ∧ Hs K FA w F' H ((some v, frz o) :: ps) := by
  obtain ⟨hr, A, r, nd, q⟩ := s
  cases r with
  | cons h r =>
    rename_i A B
    have nd' := List.nodup_append.mp nd
    refine ⟨addF F H A, addF_sub hr.sub, ⟨addF_subH hr.sub, hr.sub0.trans (addF_sub hr.sub), fun a ob e => ?_, hr.keep, hr.dom, fun a xs e => addF_sub hr.sub _ _ (hr.tups a xs e), hr.tabs, fun a ps e => by
      unfold addF at e
      split at e
      · rename_i m
        obtain ⟨xs, e'⟩ := h.dom a m
        rw [e] at e'; cases e'
      · exact hr.ntb a ps e⟩, B, ?_, nd'.2.1, fun a m => ⟨?_, (q a (List.mem_append_right _ m)).2⟩⟩
    · unfold addF at e
      split at e
      · rename_i m
        obtain ⟨q1, q2⟩ := q a (List.mem_append_left _ m)
        exact .inr (q2.elim (fun z => .inr (.inl z)) .inl)
      · exact hr.new a ob e
    · exact RepL.cons (A := []) (.z (h.frozen hr.sub hr.tups)) (r.frame (addF_sub hr.sub) (fun _ _ => rfl) fun _ _ e => e)
    · unfold addF
      rw [if_neg fun m' => nd'.2.2 a m' a m rfl]
      exact (q a (List.mem_append_right _ m)).1
/-- something new is laid -/
theorem Hs.alloc {p : Addr} {ob : HO} (s : Hs K FA w F H ps) (hp : H p = none) (hn : ∀ xs, ob ≠ .tup xs) : Hs K FA w F (upd H p ob) ps := by
  obtain ⟨hr, A, r, nd, q⟩ := s
  have sb : Sub H (upd H p ob) := fun a x e => by rw [upd_ne (ne_of_none e hp)]; exact e
  refine ⟨⟨hr.sub.trans sb, hr.sub0, hr.new, fun a x e m => sb _ _ (hr.keep a x e m), fun a e => hr.dom a ?_, fun a xs e => ?_, Tabs.stay hr.tabs fun b o e _ => sb _ _ e, hr.ntb⟩, A, r.frame (Sub.refl _) (fun a m => ?_) sb.tups, nd, q⟩
  · by_cases z : a = p
    · rw [z]; exact hp
    · rw [upd_ne z] at e; exact e
  · by_cases z : a = p
    · rw [z, upd_same] at e; cases e; exact absurd rfl (hn xs)
    · rw [upd_ne z] at e; exact hr.tups a xs e
  · obtain ⟨xs, e⟩ := r.dom a m
    exact upd_ne (ne_of_none e hp)
theorem Hs.allocT {p : Addr} {xs : List V} (s : Hs K FA w F H ps) (hp : H p = none) : Hs K FA w (upd F p (.tup xs)) (upd H p (.tup xs)) ps := by
  obtain ⟨hr, A, r, nd, q⟩ := s
  have sb : Sub H (upd H p (.tup xs)) := fun a x e => by rw [upd_ne (ne_of_none e hp)]; exact e
  have fp : F p = none := by
    cases e : F p with
    | none => rfl
    | some o => rw [hr.sub _ _ e] at hp; cases hp
  have sf : Sub F (upd F p (.tup xs)) := fun a x e => by rw [upd_ne (ne_of_none e fp)]; exact e
  refine ⟨⟨fun a o e => ?_, hr.sub0.trans sf, fun a o e => ?_, fun a x e m => sb _ _ (hr.keep a x e m), fun a e => hr.dom a ?_, fun a ys e => ?_, Tabs.stay hr.tabs fun b o e _ => sb _ _ e, fun a ps e => by
      by_cases z : a = p
      · rw [z, upd_same] at e; cases e
      · rw [upd_ne z] at e; exact hr.ntb a ps e⟩, A, r.frame sf (fun a m => ?_) sb.tups, nd, fun a m => ⟨?_, (q a m).2⟩⟩
  · by_cases z : a = p
    · rw [z, upd_same] at e ⊢; exact e
    · rw [upd_ne z] at e ⊢; exact hr.sub _ _ e
  · by_cases z : a = p
    · exact .inr (.inl (hr.dom a (by rw [z]; exact hp)))
    · rw [upd_ne z] at e; exact hr.new _ _ e
  · by_cases z : a = p
    · rw [z]; exact hp
    · rw [upd_ne z] at e; exact e
  · by_cases z : a = p
    · rw [z, upd_same] at e ⊢; exact e
    · rw [upd_ne z] at e ⊢; exact hr.tups a ys e
  · obtain ⟨ys, e⟩ := r.dom a m
    exact upd_ne (ne_of_none e hp)
  · obtain ⟨ys, e⟩ := r.dom a m
    rw [upd_ne (ne_of_none e hp)]
    exact (q a m).1
/-- several at the front, as one list -/
theorem Hs.front {os : List O} {vs : List V} (hl : vs.length = os.length) (s : Hs K FA w F H ((vs.map Option.some).zip os ++ ps)) :
    ∃ A, RepOs K FA F H vs os A := by
  obtain ⟨hr, A, r, nd, q⟩ := s
  obtain ⟨A1, B1, rfl, r1, r2⟩ := RepL.to_os hl r
  exact ⟨A1, r1⟩
theorem Hs.drop {os : List O} {vs : List V} (hl : vs.length = os.length) (s : Hs K FA w F H ((vs.map Option.some).zip os ++ ps)) : Hs K FA w F H ps := by
  obtain ⟨hr, A, r, nd, q⟩ := s
  obtain ⟨A1, B1, rfl, r1, r2⟩ := RepL.to_os hl r
  exact ⟨hr, B1, r2, (List.nodup_append.mp nd).2.1, fun a m => q a (List.mem_append_right _ m)⟩
/-- [..] -/
theorem Hs.mkList {os : List O} {vs : List V} {p : Addr} (hl : vs.length = os.length) (s : Hs K FA w F H ((vs.map Option.some).zip os ++ ps)) (hp : H p = none) :
    Hs K FA w F (upd H p (.lst vs)) ((some (.ref p), .l os) :: ps) := by
  have s1 := s.alloc (ob := .lst vs) hp (fun xs z => by cases z)
  obtain ⟨hr, A, r, nd, q⟩ := s1
  obtain ⟨A1, B1, rfl, r1, r2⟩ := RepL.to_os hl r
  have np : ∀ a ∈ A1 ++ B1, a ≠ p := fun a m z => by
    obtain ⟨hr0, A0, r0, _, _⟩ := s
    have q2 := (q a m)
    obtain ⟨xs, e⟩ := r.dom a m
    -- the owned ones stood there before
    obtain ⟨C, D', eC, rC, rD⟩ := RepL.to_os hl r0
    have frC := r0.frame (F' := F) (H' := upd H p (.lst vs)) (Sub.refl _) (fun b mb => by
      obtain ⟨ys, eb⟩ := r0.dom b mb
      exact upd_ne (ne_of_none eb hp)) (fun b ys eb => by rw [upd_ne (ne_of_none eb hp)]; exact eb)
    exact absurd z (by
      intro z
      have := RepL.uniq frC r
      subst this
      obtain ⟨ys, eb⟩ := r0.dom a m
      rw [z, hp] at eb
      cases eb)
  refine ⟨hr, p :: A1 ++ B1, RepL.cons (A := p :: A1) (.l upd_same r1) r2, ?_, fun a m => ?_⟩
  · rw [List.cons_append]
    exact List.nodup_cons.mpr ⟨fun m => np p m rfl, nd⟩
  · rw [List.cons_append] at m
    rcases List.mem_cons.mp m with e | m
    · subst e
      have h0 : F a = none := by
        cases e : F a with
        | none => rfl
        | some o => rw [s.1.sub _ _ e] at hp; cases hp
      exact ⟨h0, .inr (s.1.dom a hp)⟩
    · exact q a m
end
end RF
/-! RFc: the slots, what changes. -/
namespace RF
open L2 PySem PySem.Spec PyProof.Rows
/-! ### slots -/
theorem lv_nil : lv [] [] = [] := rfl
theorem lv_none (w : Option V) (σ : L2.St) (env : Env) : lv (w :: σ) (none :: env) = lv σ env := rfl
theorem lv_some (w : Option V) (o : O) (σ : L2.St) (env : Env) : lv (w :: σ) (some o :: env) = (w, o) :: lv σ env := rfl
theorem getE_some {env : Env} {i : Nat} {o : O} (h : getE env i = some o) : env[i]? = some (some o) := by
  unfold getE at h
  cases e : env[i]? with
  | none => rw [e] at h; cases h
  | some x => rw [e] at h; simp at h; rw [h]
theorem lv_take : ∀ {σ : L2.St} {env : Env} {i : Nat} {o : O}, env.length = σ.length → env[i]? = some (some o) → ∃ w, σ[i]? = some w ∧ (lv σ env).Perm ((w, o) :: lv σ (env.set i none))
  | [], [], _, _, _, e => by simp at e
  | [], _ :: _, _, _, hl, _ => by simp at hl
  | _ :: _, [], _, _, hl, _ => by simp at hl
  | w :: σ, x :: env, 0, o, hl, e => by
    simp at e; subst e
    exact ⟨w, rfl, .refl _⟩
  | w :: σ, x :: env, i + 1, o, hl, e => by
    obtain ⟨w', e1, p⟩ := lv_take (σ := σ) (env := env) (i := i) (by simpa using hl) (by simpa using e)
    refine ⟨w', by simpa using e1, ?_⟩
    cases x with
    | none => exact p
    | some x =>
      rw [List.set_cons_succ, lv_some, lv_some]
      exact (p.cons _).trans (.swap _ _ _)
theorem lv_put (o : O) (w : Option V) : ∀ {σ : L2.St} {env : Env} {i : Nat}, env.length = σ.length → i < σ.length → (lv (σ.set i w) (env.set i (some o))).Perm ((w, o) :: lv σ (env.set i none))
  | [], [], _, _, h => by simp at h
  | [], _ :: _, _, hl, _ => by simp at hl
  | _ :: _, [], _, hl, _ => by simp at hl
  | w' :: σ, x :: env, 0, hl, h => .refl _
  | w' :: σ, x :: env, i + 1, hl, h => by
    have p := lv_put o w (σ := σ) (env := env) (i := i) (by simpa using hl) (by simpa using h)
    rw [List.set_cons_succ, List.set_cons_succ, List.set_cons_succ]
    cases x with
    | none => exact p
    | some x =>
      rw [lv_some, lv_some]
      exact (p.cons _).trans (.swap _ _ _)
theorem set_self : ∀ {σ : L2.St} {i : Nat} {w : Option V}, σ[i]? = some w → σ.set i w = σ
  | [], _, _, e => by simp at e
  | x :: σ, 0, w, e => by simp at e; subst e; rfl
  | x :: σ, i + 1, w, e => by rw [List.set_cons_succ, set_self (by simpa using e)]
theorem lv_none_of : ∀ {σ : L2.St} {env : Env} {i : Nat}, env.length = σ.length → getE env i = none → lv σ (env.set i none) = lv σ env
  | [], [], _, _, _ => rfl
  | [], _ :: _, _, hl, _ => by simp at hl
  | _ :: _, [], _, hl, _ => by simp at hl
  | w :: σ, x :: env, 0, hl, e => by
    cases x with
    | none => rfl
    | some x => simp [getE] at e
  | w :: σ, x :: env, i + 1, hl, e => by
    have h := lv_none_of (σ := σ) (env := env) (i := i) (by simpa using hl) (by simpa [getE] using e)
    rw [List.set_cons_succ]
    cases x with
    | none => rw [lv_none, lv_none, h]
    | some x => rw [lv_some, lv_some, h]
section
variable {K : PySem.W.Frag} {FA : Fns} {w : W0} {F F' H H' : Hp} {ps qs ts : List (Option V × O)} {v : V} {o : O} {d : D} {σ : L2.St} {env : Env} {i : Nat}
theorem Hs.take (hl : env.length = σ.length) (e : getE env i = some o) (s : Hs K FA w F H (lv σ env ++ ts)) : ∃ v, σ[i]? = some (some v) ∧ Hs K FA w F H ((some v, o) :: (lv σ (env.set i none) ++ ts)) := by
  obtain ⟨u, e1, p⟩ := lv_take hl (getE_some e)
  have s1 := s.perm (p.append_right ts)
  obtain ⟨v, rfl⟩ := s1.isSome
  exact ⟨v, e1, s1⟩
theorem Hs.put (hl : env.length = σ.length) (hi : i < σ.length) (s : Hs K FA w F H ((some v, o) :: (lv σ (env.set i none) ++ ts))) : Hs K FA w F H (lv (σ.set i (some v)) (env.set i (some o)) ++ ts) :=
  s.perm ((lv_put o (some v) hl hi).symm.append_right ts)
theorem Hs.back (hl : env.length = σ.length) (hi : σ[i]? = some (some v)) (s : Hs K FA w F H ((some v, o) :: (lv σ (env.set i none) ++ ts))) : Hs K FA w F H (lv σ (env.set i (some o)) ++ ts) := by
  have h := s.put hl (i := i) (by have := (List.getElem?_eq_some_iff.mp hi).1; exact this)
  rw [set_self hi] at h
  exact h
theorem Hs.forget (hl : env.length = σ.length) (s : Hs K FA w F H (lv σ env ++ ts)) : Hs K FA w F H (lv σ (env.set i none) ++ ts) := by
  cases e : getE env i with
  | none => rw [lv_none_of hl e]; exact s
  | some o =>
    obtain ⟨v, _, s1⟩ := s.take hl e
    exact s1.tail
theorem Hs.store (hl : env.length = σ.length) (hi : i < σ.length) (s : Hs K FA w F H ((some v, o) :: (lv σ env ++ ts))) : Hs K FA w F H (lv (σ.set i (some v)) (env.set i (some o)) ++ ts) := by
  refine Hs.put hl hi ?_
  have s1 : Hs K FA w F H (lv σ env ++ ((some v, o) :: ts)) := s.perm (List.perm_middle.symm)
  exact (s1.forget hl (i := i)).perm List.perm_middle
/-- the slot's value, seen -/
theorem Hs.slotView (hl : env.length = σ.length) (e : getE env i = some o) (s : Hs K FA w F H (lv σ env ++ ts)) : ∃ v, σ[i]? = some (some v) ∧ Rep K FA H v o.toD := by
  obtain ⟨v, e1, s1⟩ := s.take hl e
  exact ⟨v, e1, s1.view⟩
theorem Hs.slotRep (hl : env.length = σ.length) (e : getE env i = some (.z d)) (s : Hs K FA w F H (lv σ env ++ ts)) : ∃ v, σ[i]? = some (some v) ∧ Rep K FA F v d := by
  obtain ⟨v, e1, s1⟩ := s.take hl e
  exact ⟨v, e1, s1.rep⟩
/-- a value that is looked at: it stands for good, or its own list is read and its items stand for good -/
inductive RepV (K : PySem.W.Frag) (FA : Fns) (F H : Hp) : V → D → Prop
  | rep {v : V} {d : D} : Rep K FA F v d → RepV K FA F H v d
  | l {a : Addr} {vs : List V} {ds : List D} : H a = some (.lst vs) → Reps K FA F vs ds → RepV K FA F H (.ref a) (.lst ds)
theorem RepV.mono (h : RepV K FA F H v d) (s : Sub F F') (t : Sub H H') : RepV K FA F' H' v d := by
  cases h with
  | rep h => exact .rep (h.mono s)
  | l h r => exact .l (t _ _ h) (r.mono s)
theorem RepV.view (h : RepV K FA F H v d) (s : Sub F H) : Rep K FA H v d := by
  cases h with
  | rep h => exact h.mono s
  | l h r => exact .lst h (r.mono s)
theorem RepV.lst {ds : List D} (h : RepV K FA F H v (.lst ds)) (s : Sub F H) : ∃ a vs, v = .ref a ∧ H a = some (.lst vs) ∧ Reps K FA F vs ds := by
  cases h with
  | rep h =>
    cases h with
    | lst h r => exact ⟨_, _, rfl, s _ _ h, r⟩
  | l h r => exact ⟨_, _, rfl, h, r⟩
theorem RepV.tup {ds : List D} (h : RepV K FA F H v (.tup ds)) (s : Sub F H) : ∃ a vs, v = .ref a ∧ H a = some (.tup vs) ∧ Reps K FA F vs ds := by
  cases h with
  | rep h =>
    cases h with
    | tup h r => exact ⟨_, _, rfl, s _ _ h, r⟩
theorem RepV.int {n : Int} (h : RepV K FA F H v (.int n)) : v = .int n := by
  cases h with
  | rep h => cases h; rfl
theorem RepV.scr {ns : List Int} (h : RepV K FA F H v (.scr ns)) (s : Sub F H) : ∃ a, v = .ref a ∧ SqL K H a (ns.map V.int) := by
  cases h with
  | rep h =>
    cases h with
    | scr h => exact ⟨_, rfl, SqL.sub s h⟩
theorem RepOs.allZ' {os : List O} {vs : List V} {A : List Addr} (h : RepOs K FA F H vs os A) (e : os.all O.isZ = true) : A = [] ∧ Reps K FA F vs (O.toDs os) := h.allZ e
theorem RepO.viewV {A : List Addr} (t : Tups H F) (h : RepO K FA F H v o A) (e : o.flat = true) : RepV K FA F H v o.toD := by
  cases h with
  | z h => simp only [O.toD]; exact .rep h
  | l h r =>
    simp only [O.toD]
    obtain ⟨_, q⟩ := r.allZ (by simpa [O.flat] using e)
    exact .l h q
  | t h r =>
    simp only [O.toD]
    obtain ⟨_, q⟩ := r.allZ (by simpa [O.flat] using e)
    exact .rep (.tup (t _ _ h) q)
/-- an owned list is written -/
theorem Hs.write {a : Addr} {vs vs' : List V} {os' : List O} {A' B : List Addr} (hr : HR w F H) (h : H a = some (.lst vs)) (r : RepOs K FA F H vs' os' A') (rB : RepL K FA F H ps B)
    (nd : (a :: (A' ++ B)).Nodup) (q : ∀ x ∈ a :: (A' ++ B), F x = none ∧ (x ∈ w.M ∨ w.H0 x = none)) : Hs K FA w F (upd H a (.lst vs')) ((some (.ref a), .l os') :: ps) := by
  have na : ∀ x ∈ A' ++ B, x ≠ a := fun x m z => by
    have := (List.nodup_cons.mp nd).1
    rw [z] at m
    exact this m
  have fa : F a = none := (q a List.mem_cons_self).1
  have tp : Tups H (upd H a (.lst vs')) := fun x xs e => by
    rw [upd_ne (ne_of e h fun z => by cases z)]; exact e
  refine ⟨⟨fun x o e => ?_, hr.sub0, hr.new, fun x o e m => ?_, fun x e => ?_, fun x xs e => ?_, Tabs.stay hr.tabs fun b o e n => by rw [upd_ne (fun z => by rw [z, h] at e; cases e; exact n _ rfl)]; exact e, hr.ntb⟩, a :: A' ++ B, RepL.cons (A := a :: A') (.l upd_same (r.frame (Sub.refl _) (fun x m => upd_ne (na x (List.mem_append_left _ m))) tp)) (rB.frame (Sub.refl _) (fun x m => upd_ne (na x (List.mem_append_right _ m))) tp), by simpa using nd, fun x m => q x (by simpa using m)⟩
  · have : x ≠ a := fun z => by rw [z, fa] at e; cases e
    rw [upd_ne this]; exact hr.sub _ _ e
  · have : x ≠ a := fun z => by
      subst z
      rcases (q x List.mem_cons_self).2 with z | z
      · exact m z
      · rw [z] at e; cases e
    rw [upd_ne this]; exact hr.keep _ _ e m
  · by_cases z : x = a
    · rw [z, upd_same] at e; cases e
    · rw [upd_ne z] at e; exact hr.dom _ e
  · by_cases z : x = a
    · rw [z, upd_same] at e; cases e
    · rw [upd_ne z] at e; exact hr.tups _ _ e
theorem Hs.own {os : List O} (s : Hs K FA w F H ((some v, .l os) :: ps)) : ∃ a vs, v = .ref a ∧ H a = some (.lst vs) ∧ vs.length = os.length := by
  obtain ⟨A, h⟩ := s.head
  cases h with
  | l h r => exact ⟨_, _, rfl, h, r.length⟩
theorem Hs.append {os : List O} {a : Addr} {vs : List V} {y : V} (h : H a = some (.lst vs)) (s : Hs K FA w F H ((some (.ref a), .l os) :: (some y, o) :: ps)) :
    Hs K FA w F (upd H a (.lst (vs ++ [y]))) ((some (.ref a), .l (os ++ [o])) :: ps) := by
  obtain ⟨hr, C, r, nd, q⟩ := s
  cases r with
  | cons h1 r =>
    cases h1 with
    | l h2 r2 =>
      cases r with
      | cons h3 r3 =>
        rename_i vs2 A1 A3 B3
        rw [h] at h2; cases h2
        have r4 := r2.append (RepOs.cons h3 .nil)
        have e : a :: A1 ++ (A3 ++ B3) = a :: (A1 ++ (A3 ++ []) ++ B3) := by simp
        rw [e] at nd q
        exact Hs.write hr h r4 r3 nd q
theorem Hs.setAt {os : List O} {a : Addr} {vs : List V} {y : V} (h : H a = some (.lst vs)) (hi : i < os.length) (s : Hs K FA w F H ((some (.ref a), .l os) :: (some y, o) :: ps)) :
    Hs K FA w F (upd H a (.lst (vs.set i y))) ((some (.ref a), .l (os.set i o)) :: ps) := by
  obtain ⟨hr, C, r, nd, q⟩ := s
  cases r with
  | cons h1 r =>
    cases h1 with
    | l h2 r2 =>
      cases r with
      | cons h3 r3 =>
        rename_i vs2 A1 A3 B3
        rw [h] at h2; cases h2
        obtain ⟨Ar, r4, Ad, p⟩ := RepOs.set h3 r2 hi
        have p2 : (a :: A1 ++ (A3 ++ B3)).Perm (Ad ++ (a :: (Ar ++ B3))) := by
          have q1 : (a :: A1 ++ (A3 ++ B3)).Perm (a :: ((Ad ++ Ar) ++ B3)) := by
            rw [List.cons_append]
            refine List.Perm.cons a ?_
            rw [← List.append_assoc]
            exact ((List.perm_append_comm).trans p.symm).append_right B3
          refine q1.trans ?_
          rw [List.append_assoc]
          exact List.perm_middle.symm
        have nd2 := (List.nodup_append.mp (p2.nodup_iff.mp nd)).2.1
        exact Hs.write hr h r4 r3 nd2 fun x m => q x (p2.mem_iff.mpr (List.mem_append_right _ m))
/-- an item leaves an owned list -/
theorem Hs.erase {os : List O} {a : Addr} {vs : List V} (h : H a = some (.lst vs)) (hi : os[i]? = some o) (s : Hs K FA w F H ((some (.ref a), .l os) :: ps)) :
    ∃ y, vs[i]? = some y ∧ Hs K FA w F (upd H a (.lst (vs.eraseIdx i))) ((some y, o) :: (some (.ref a), .l (os.eraseIdx i)) :: ps) := by
  obtain ⟨hr, C, r, nd, q⟩ := s
  cases r with
  | @cons _ _ _ _ B1 h1 r =>
    cases h1 with
    | @l _ vs2 _ A1 h2 r2 =>
      rw [h] at h2; cases h2
      obtain ⟨y, Ao, Ar, e1, r3, r4, p⟩ := r2.pick hi
      refine ⟨y, e1, ?_⟩
      have p2 : (a :: A1 ++ B1).Perm (a :: (Ar ++ (Ao ++ B1))) := by
        rw [List.cons_append]
        refine List.Perm.cons a ?_
        refine (p.append_right B1).trans ?_
        rw [← List.append_assoc]
        exact List.perm_append_comm.append_right B1
      have s2 := Hs.write hr h r4 (RepL.cons r3 r) (p2.nodup_iff.mp nd) fun x m => q x (p2.mem_iff.mpr m)
      exact s2.perm (.swap _ _ _)
/-- (..) of values that stand for good -/
theorem Hs.mkTup {os : List O} {vs : List V} {p : Addr} (hl : vs.length = os.length) (s : Hs K FA w F H ((vs.map Option.some).zip os ++ ps)) (hp : H p = none) :
    Hs K FA w (upd F p (.tup vs)) (upd H p (.tup vs)) ((some (.ref p), if os.all O.isZ then .z (.tup (O.toDs os)) else .t os) :: ps) := by
  have s1 := s.allocT (xs := vs) hp
  by_cases z : os.all O.isZ = true
  · rw [if_pos z]
    obtain ⟨hr, A, r, nd, q⟩ := s1
    obtain ⟨A1, B1, rfl, r1, r2⟩ := RepL.to_os hl r
    obtain ⟨rfl, r3⟩ := r1.allZ z
    exact ⟨hr, B1, RepL.cons (A := []) (.z (.tup upd_same r3)) r2, nd, q⟩
  · rw [if_neg z]
    obtain ⟨hr, A, r, nd, q⟩ := s1
    obtain ⟨A1, B1, rfl, r1, r2⟩ := RepL.to_os hl r
    exact ⟨hr, A1 ++ B1, RepL.cons (.t upd_same r1) r2, nd, q⟩
/-- a new list of values that stand for good -/
theorem Hs.newList {ds : List D} {vs : List V} {p : Addr} (s : Hs K FA w F H ps) (r : Reps K FA F vs ds) (hp : H p = none) : Hs K FA w F (upd H p (.lst vs)) ((some (.ref p), .l (ds.map .z)) :: ps) := by
  have hl : vs.length = (ds.map O.z).length := by rw [List.length_map]; exact r.length
  refine Hs.mkList hl ?_ hp
  obtain ⟨hr, A, r1, nd, q⟩ := s
  exact ⟨hr, A, RepL.of_os (A := []) (RepOs.of_reps r) r1, nd, q⟩
/-- the owned addresses of a new value are new -/
def Fresh (K : PySem.W.Frag) (FA : Fns) (F' H H' : Hp) (v : V) (o : O) : Prop := ∃ A, RepO K FA F' H' v o A ∧ ∀ a ∈ A, H a = none
/-- the environment again as it was: nothing was changed, and what came shares no list -/
theorem Hs.restore {env1 : Env} (s : Hs K FA w F H (lv σ env ++ ts)) (s1 : Hs K FA w F' H' ((some v, o) :: (lv σ env1 ++ ts))) (hH : Sub H H') (hF : Sub F F') (fr : Fresh K FA F' H H' v o) (c : o.clean = true) :
    ∃ F2, Sub F F2 ∧ Fresh K FA F2 H H' v o ∧ Hs K FA w F2 H' ((some v, o) :: (lv σ env ++ ts)) := by
  obtain ⟨hr, B, rB, ndB, qB⟩ := s
  obtain ⟨hr1, C, rC, ndC, qC⟩ := s1
  obtain ⟨A, rA, nA⟩ := fr
  cases rC with
  | cons rA' rC =>
    rename_i A' B'
    obtain rfl := rA.uniq rA'
    let F2 : Hp := fun a => match F a with
      | some ob => some ob
      | none => match H' a with
        | some (.tup xs) => some (.tup xs)
        | _ => none
    have f2a : ∀ a ob, F a = some ob → F2 a = some ob := fun a ob e => by show (match F a with | some ob => some ob | none => _) = _; rw [e]
    have f2t : ∀ a xs, F a = none → H' a = some (.tup xs) → F2 a = some (.tup xs) := fun a xs e e' => by
      show (match F a with | some ob => some ob | none => match H' a with | some (.tup xs) => some (.tup xs) | _ => none) = _
      rw [e, e']
    have f2i : ∀ a ob, F2 a = some ob → F a = some ob ∨ (F a = none ∧ ∃ xs, ob = .tup xs ∧ H' a = some (.tup xs)) := fun a ob e => by
      have e : (match F a with | some ob => some ob | none => match H' a with | some (.tup xs) => some (.tup xs) | _ => none) = some ob := e
      cases q : F a with
      | some x => rw [q] at e; exact .inl e
      | none =>
        rw [q] at e
        cases q' : H' a with
        | none => rw [q'] at e; cases e
        | some x =>
          rw [q'] at e
          cases x <;> first | cases e; exact .inr ⟨rfl, _, rfl, rfl⟩ | cases e
    have tups2 : Tups H' F2 := fun a xs e => by
      cases q : F a with
      | none => exact f2t a xs q e
      | some ob =>
        have := hF _ _ q
        have h2 := hr1.sub _ _ this
        rw [e] at h2; cases h2
        exact f2a a _ q
    have hr2 : HR w F2 H' := ⟨fun a ob e => by
        rcases f2i a ob e with z | ⟨_, xs, z1, z2⟩
        · exact hr1.sub _ _ (hF _ _ z)
        · rw [z1]; exact z2,
      fun a ob e => f2a a ob (hr.sub0 a ob e), fun a ob e => by
        rcases f2i a ob e with z | ⟨n, xs, z1, z2⟩
        · exact hr.new a ob z
        · refine .inr (.inl (hr.dom a ?_))
          cases q : H a with
          | none => rfl
          | some x =>
            have h2 := hH _ _ q
            rw [z2] at h2
            cases h2
            have h3 := hr.tups _ _ q
            rw [n] at h3
            exact (nomatch h3), hr1.keep, hr1.dom, tups2, hr1.tabs, fun a ps e => by
        rcases f2i a _ e with z | ⟨_, xs, z1, _⟩
        · exact hr.ntb a ps z
        · cases z1⟩
    have sub2 : Sub F F2 := f2a
    have t12 : Tups F' F2 := fun a xs e => tups2 a xs (hr1.sub _ _ e)
    have rA2 := rA.clean t12 c
    have rB2 : RepL K FA F2 H' (lv σ env ++ ts) B := rB.frame sub2 (fun a m => by
      obtain ⟨xs, e⟩ := rB.dom a m
      rw [e]; exact hH _ _ e) hH.tups
    refine ⟨F2, sub2, ⟨A, rA2, nA⟩, hr2, A ++ B, RepL.cons rA2 rB2, List.nodup_append.mpr ⟨(List.nodup_append.mp ndC).1, ndB, fun a ma b mb e => ?_⟩, fun a m => ?_⟩
    · obtain ⟨xs, q⟩ := rB.dom b mb
      rw [e] at ma
      rw [nA b ma] at q; cases q
    · have nt : ∃ xs, H' a = some (.lst xs) := by
        rcases List.mem_append.mp m with m | m
        · exact rA2.dom a m
        · obtain ⟨xs, e⟩ := rB.dom a m
          exact ⟨xs, hH _ _ e⟩
      have fn : F a = none := by
        rcases List.mem_append.mp m with m | m
        · cases q : F a with
          | none => rfl
          | some x =>
            have := hr.sub _ _ q
            rw [nA a m] at this; cases this
        · exact (qB a m).1
      refine ⟨?_, ?_⟩
      · cases q : F2 a with
        | none => rfl
        | some x =>
          obtain ⟨xs, e⟩ := nt
          rcases f2i a x q with z | ⟨_, ys, rfl, z⟩
          · rw [fn] at z; cases z
          · rw [e] at z; cases z
      · rcases List.mem_append.mp m with m | m
        · exact .inr (hr.dom a (nA a m))
        · exact (qB a m).2
end
end RF
/-! RFd: what the text must look like; what a def promises; what a reading says. -/
namespace RF
open L2 PySem PySem.Spec PyProof.Rows
/-! ### the look at the text -/
structure Names where
  kw : List (Nat × Nat × List Str × List Nat)
  fn : Nat → Option Str
  kn : Nat → Option (Str × Int)
  pars : Nat → List Str
  mks : Bool
  lamB : Nat → Arguments → Scope → Expr → Bool
  cl : Nat → Option Str
  fit : Option Str
def kd (sc : Scope) (x : Str) : Option NameKind := sc.names.lookup x
def visB (N : List Str) (sc : Scope) (i : Nat) (x : Str) : Bool :=
  decide (N[i]? = some x) && (decide (kd sc x = some .local) || decide (kd sc x = some .cell) || decide (kd sc x = some .free)) && !(x == "__debug__") && !(x == "__classdict__")
def locB (N : List Str) (sc : Scope) (i : Nat) (x : Str) : Bool := decide (N[i]? = some x) && (decide (kd sc x = some .local) || decide (kd sc x = some .cell))
def glB (sc : Scope) (x : Str) : Bool := decide (kd sc x = some .globalImplicit) && !(x == "__debug__")
def bopIs : Bop → Operator → Bool
  | .add, .Add => true | .sub, .Sub => true | .mul, .Mult => true | .fdiv, .FloorDiv => true | .mod, .Mod => true | .pow, .Pow => true
  | _, _ => false
def copIs : Cop → CmpOp → Bool
  | .eq, .Eq => true | .ne, .NotEq => true | .lt, .Lt => true | .le, .LtE => true | .gt, .Gt => true | .ge, .GtE => true
  | .mem, .In => true | .nmem, .NotIn => true | .is, .Is => true | .isn, .IsNot => true
  | _, _ => false
def bltIs : Blt → Nat → Str → Bool
  | .len, 1, x => x == "len" | .abs, 1, x => x == "abs" | .sum, 1, x => x == "sum" | .max1, 1, x => x == "max" | .min1, 1, x => x == "min"
  | .max2, 2, x => x == "max" | .min2, 2, x => x == "min" | .int, 1, x => x == "int" | .list, 1, x => x == "list" | .tuple, 1, x => x == "tuple"
  | .all, 1, x => x == "all" | .repr, 1, x => x == "repr" | .sorted, 1, x => x == "sorted" | .sum, 2, x => x == "sum"
  | _, _, _ => false
def tyIs : Ty → Expr → Scope → Bool
  | .int, .Name x _, sc => x == "int" && glB sc x
  | .bool, .Name x _, sc => x == "bool" && glB sc x
  | .str, .Name x _, sc => x == "str" && glB sc x
  | .list, .Name x _, sc => x == "list" && glB sc x
  | .tuple, .Name x _, sc => x == "tuple" && glB sc x
  | .lt, .Tuple [.Name x _, .Name y _] _ _, sc => x == "list" && glB sc x && y == "tuple" && glB sc y
  | _, _, _ => false
def noMark (op : CmpOp) (b : Expr) : Bool := !behindInMarks op b
/-- the names of a target -/
def tgIs (N : List Str) (sc : Scope) : Tg → Expr → Bool
  | .nm i, .Name x _ => locB N sc i x
  | .tp is, .Tuple es _ _ => go is es
  | _, _ => false
where go : List Nat → List Expr → Bool
  | [], [] => true
  | i :: is, .Name x _ :: es => locB N sc i x && go is es
  | _, _ => false
def tgSlots : Tg → List Nat
  | .nm i => [i]
  | .tp is => is
def ownOf (N : List Str) (own : List Nat) : List (Str × Nat) := own.map fun i => (N.getD i "", i)
def kwNames : List Keyword → List Str
  | [] => []
  | ⟨.some n, _, _⟩ :: r => n :: kwNames r
  | ⟨.none, _, _⟩ :: r => kwNames r
def xsLen : Xs → Nat
  | .nil => 0
  | .cons _ es => xsLen es + 1
mutual
def isE (Nm : Names) (N : List Str) : X → Scope → Expr → Bool
  | .v i, sc, e => (match e with | .Name x _ => visB N sc i x | _ => false)
  | .non, _, e => (match e with | .Constant .none _ _ => true | _ => false)
  | .tt b, _, e => (match e with | .Constant (.bool c) _ _ => b == c | _ => false)
  | .n i, _, e => (match e with | .Constant (.int j) _ _ => decide (i = j) | _ => false)
  | .s x, _, e => (match e with | .Constant (.str y) _ _ => decide (x = y) | _ => false)
  | .g f, sc, e => (match e with | .Name x _ => decide (Nm.fn f = some x) && glB sc x | _ => false)
  | .gk j i, sc, e => (match e with | .Name x _ => decide (Nm.kn j = some (x, i)) && glB sc x | _ => false)
  | .tup es, sc, e => (match e with | .Tuple us _ _ => isEs Nm N es sc us && decide (us.length ≤ 1000) | _ => false)
  | .lst es, sc, e => (match e with | .List us _ => isEs Nm N es sc us && decide (us.length ≤ 1000) | _ => false)
  | .bin o a b, sc, e => (match e with | .BinOp x op y _ => bopIs o op && isE Nm N a sc x && isE Nm N b sc y | _ => false)
  | .neg a, sc, e => (match e with | .UnaryOp .USub x _ => isE Nm N a sc x | _ => false)
  | .cmp o a b, sc, e => (match e with | .Compare x [op] [y] _ => copIs o op && noMark op y && isE Nm N a sc x && isE Nm N b sc y | _ => false)
  | .cmp2 o p a b c, sc, e => (match e with | .Compare x [op, op'] [y, z] _ => copIs o op && copIs p op' && noMark op' z && isE Nm N a sc x && isE Nm N b sc y && isE Nm N c sc z | _ => false)
  | .and es, sc, e => (match e with | .BoolOp .And us _ => isEs Nm N es sc us | _ => false)
  | .or es, sc, e => (match e with | .BoolOp .Or us _ => isEs Nm N es sc us | _ => false)
  | .not a, sc, e => (match e with | .UnaryOp .Not x _ => isE Nm N a sc x | _ => false)
  | .ite c a b, sc, e => (match e with | .IfExp x y z _ => isE Nm N c sc x && isE Nm N a sc y && isE Nm N b sc z | _ => false)
  | .ix a i, sc, e => (match e with | .Subscript x y _ => isE Nm N a sc x && isE Nm N i sc y | _ => false)
  | .sl a lo hi, sc, e => (match e with | .Subscript x (.Slice l h .none _) _ => isE Nm N a sc x && isEo Nm N lo sc l && isEo Nm N hi sc h | _ => false)
  | .rev a, sc, e => (match e with | .Subscript x (.Slice .none .none (.some (.UnaryOp .USub (.Constant (.int 1) _ _) _)) _) _ => isE Nm N a sc x | _ => false)
  | .call p f es, sc, e => (match e with | .Call (.Name x _) us [] _ => decide (Nm.fn f = some x) && glB sc x && isEs Nm N es sc us && (!p || pureXs es) | _ => false)
  | .callk f es ks perm, sc, e => (match e with | .Call (.Name x _) us kws _ => decide (Nm.fn f = some x) && glB sc x && isEs Nm N es sc us && isKs Nm N ks sc kws && pureXs es && pureXs ks && decide (0 < kws.length) && Nm.kw.contains (f, us.length, kwNames kws, perm) | _ => false)
  | .callv i es, sc, e => (match e with | .Call (.Name x _) us [] _ => visB N sc i x && isEs Nm N es sc us && pureXs es | _ => false)
  | .blt b es, sc, e => (match e with | .Call (.Name x _) us [] _ => bltIs b us.length x && glB sc x && isEs Nm N es sc us | _ => false)
  | .lrange it, sc, e => (match e with | .Call (.Name x _) [u] [] _ => x == "list" && glB sc x && (match it with | .rng1 _ => true | .rng2 _ _ => true | _ => false) && isIt Nm N it sc (.Name "x" ⟨0, 0, 0, 0⟩) u | _ => false)
  | .isi t a, sc, e => (match e with | .Call (.Name x _) [u, c] [] _ => x == "isinstance" && glB sc x && isE Nm N a sc u && tyIs t c sc | _ => false)
  | .bits a, sc, e => (match e with | .Call (.Attribute (.Name x px) m p) [] [] q => m == "bit_length" && (p.endLine == q.line) && isE Nm N a sc (.Name x px) | _ => false)
  | .comp elt t it c own, sc, e => (match e with | .ListComp u [⟨tg, iu, ifs, 0⟩] sc' _ => blkC N sc sc' (ownOf N own) && own.all (fun i => decide (i < N.length)) && decide own.Nodup && (tgSlots t).all (fun i => own.contains i) && isIt Nm N it sc tg iu && tgIs N sc' t tg && isIfs Nm N c sc' ifs && isE Nm N elt sc' u | _ => false)
  | .pop i, sc, e => (match e with | .Call (.Attribute (.Name x _) m p) [] [] q => m == "pop" && (p.endLine == q.line) && visB N sc i x | _ => false)
  | .popAt i k, sc, e => (match e with | .Call (.Attribute (.Name x _) m p) [u] [] q => m == "pop" && (p.endLine == q.line) && visB N sc i x && isE Nm N k sc u | _ => false)
  | .attr i, sc, e => (match e with | .Attribute (.Name x _) f _ => f == "value" && visB N sc i x | _ => false)
  | .isc c i, sc, e => (match e with | .Call (.Name x _) [.Name y _, .Name z _] [] _ => x == "isinstance" && glB sc x && visB N sc i y && decide (Nm.cl c = some z) && glB sc z | _ => false)
  | .idx i b, sc, e => (match e with | .Call (.Attribute (.Name x _) m p) [u] [] q => m == "index" && (p.endLine == q.line) && visB N sc i x && isE Nm N b sc u && pureX b | _ => false)
  | .ix2 i a b, sc, e => (match e with | .Subscript (.Subscript (.Name x _) ka _) kb _ => visB N sc i x && isE Nm N a sc ka && isE Nm N b sc kb && (pureX a && pureX b) | _ => false)
  | .lam k is, _, e => (match e with | .Lambda params body scope _ => Nm.mks && is.isEmpty && Nm.lamB k params scope body | _ => false)
def isEs (Nm : Names) (N : List Str) : Xs → Scope → List Expr → Bool
  | .nil, _, [] => true
  | .cons e es, sc, u :: us => isE Nm N e sc u && isEs Nm N es sc us
  | _, _, _ => false
def isKs (Nm : Names) (N : List Str) : Xs → Scope → List Keyword → Bool
  | .nil, _, [] => true
  | .cons e es, sc, ⟨.some _, u, _⟩ :: us => isE Nm N e sc u && isKs Nm N es sc us
  | _, _, _ => false
def isEo (Nm : Names) (N : List Str) : Xo → Scope → Option Expr → Bool
  | .none, _, .none => true
  | .some e, sc, .some u => isE Nm N e sc u
  | _, _, _ => false
def isIfs (Nm : Names) (N : List Str) : Xo → Scope → List Expr → Bool
  | .none, _, [] => true
  | .some e, sc, [u] => isE Nm N e sc u
  | _, _, _ => false
def isIt (Nm : Names) (N : List Str) : It → Scope → Expr → Expr → Bool
  | .seq a, sc, _, u => isE Nm N a sc u
  | .rng1 a, sc, _, e => (match e with | .Call (.Name x _) [u] [] _ => x == "range" && glB sc x && isE Nm N a sc u | _ => false)
  | .rng2 a b, sc, _, e => (match e with | .Call (.Name x _) [u, v] [] _ => x == "range" && glB sc x && isE Nm N a sc u && isE Nm N b sc v | _ => false)
  | .enum a, sc, tg, e => (match e with | .Call (.Name x _) [u] [] _ => x == "enumerate" && glB sc x && isE Nm N a sc u && (match tg with | .Tuple _ _ _ => true | _ => false) | _ => false)
  | .rng3 _ _ _, _, _, _ => false
end
/-! ### promises -/
def modeOk : List Bool → List O → Bool
  | [], [] => true
  | false :: ms, .z _ :: os => modeOk ms os
  | true :: ms, .l us :: os => us.all O.isZ && modeOk ms os
  | _, _ => false
/-- what the owned parameters hold behind the call -/
def outsOf : List Bool → List V → List O → List (Option V × O)
  | true :: ms, v :: vs, o :: os => (some v, o) :: outsOf ms vs os
  | false :: ms, _ :: vs, os => outsOf ms vs os
  | _, _, _ => []
/-- an exception's fields -/
def ExcAt (K : PySem.W.Frag) (FA : Fns) (F' H' : Hp) (ds : List D) (od : Option Addr) : Prop :=
  ds = [] ∨ ∃ dx v d, ds = [d] ∧ od = some dx ∧ H' dx = some (.xd [("value", v)]) ∧ Rep K FA F' v d
/-- the arguments in the parameters' order -/
def permL {α : Type} (dflt : α) (us ws : List α) (perm : List Nat) : List α := perm.map fun j => (us ++ ws).getD j dflt
def topA : List V → List O → List Addr
  | .ref a :: vs, .l _ :: os => a :: topA vs os
  | _ :: vs, _ :: os => topA vs os
  | _, _ => []
/-- the promise of a def that does g -/
def spG (K : PySem.W.Frag) (FA : Fns) (CA : Nat → Option Addr) (ms : List Bool) (g : List O → CR) : Sp := fun vs H Q E =>
  ∃ (F : Hp) (os : List O), vs.length = ms.length ∧ modeOk ms os = true ∧ Hs K FA ⟨H, topA vs os, F, []⟩ F H ((vs.map some).zip os) ∧
    match g os with
    | .rt o outs => ∀ v H' F', Sub F F' → Hs K FA ⟨H, topA vs os, F, []⟩ F' H' ((some v, o) :: outsOf ms vs outs) → Q v H'
    | .ex c ds => ∀ H' F' od a, CA c = some a → Sub F F' → HR ⟨H, topA vs os, F, []⟩ F' H' → ExcAt K FA F' H' ds od → E (.ref a) od H'
    | .no => False
/-- the promise of a lambda that stands at f -/
def spK (K : PySem.W.Frag) (FA : Fns) (CA : Nat → Option Addr) (ms : List Bool) (g : List O → CR) (f c : Addr) (L : LamD) (pm ctv : Value) : Sp := fun vs H Q E =>
  H f = some (LamO f c L pm ctv) ∧ H c = some (LamX.CodeO c L.qual) ∧ spG K FA CA ms g vs H Q E
/-- as FnOk, where no repr runs around -/
structure FnG (P : Program) (w : World) (K : PySem.W.Frag) (mg : Str → Option Value) (base : Heap) (CX : CXT) (k : Nat) (f : Addr) (fd : FuncData) (ps : List Str) (sp : Sp) : Prop where
  len : ∀ vs H Q E, sp vs H Q E → vs.length = ps.length
  run : ∀ (A : Around) (outer : List PySem.Env) (s : Shared) (H : Hp) (args : Args) (us : List Value) (vs : List V) (Q : VK) (E : XK), Room k A → A.guards = some [] → Env0 P w K mg base A outer s H → BindsTo s fd args (ps.zip us) → Vals vs us → sp vs H Q E →
    codeAny (model P w) A (.call (.ref f) args) (L2.CR CX outer P w H s Q E) s
/-- what is known of an error class -/
structure ClsF (X : Cx) (a : Addr) : Prop where
  ini : ∃ fI cc F, RX.IniF X.prog X.K X.mg X.base a fI cc F
  xf : XfC X.K a
  ex : ExcC X.K a
/-! ### the context -/
structure ScR (X : Cx) (sc : Scope) : Prop where
  loc : ∀ x, kd sc x = some .local → X.env.scope.names.lookup x = some .local
  cell : ∀ x, kd sc x = some .cell → X.env.scope.names.lookup x = some .cell ∧ X.fn x = true
  free : ∀ x, kd sc x = some .free → X.env.scope.names.lookup x = some .cell ∨ X.env.scope.names.lookup x = some .free
  glob : ∀ x, kd sc x = some .globalImplicit → X.env.scope.names.lookup x = some .globalImplicit
/-- what the making of a lambda needs -/
structure MkOk (Nm : Names) (FA : Fns) (X : Cx) (w : W0) : Prop where
  tab : ∃ c P, X.env.code = .ref c ∧ LamX.TabB X.base X.mg c P ∧ (P, X.env.qual ++ "<lambda>") ∈ w.T ∧ (∀ p ∈ w.T, p.1 = P → p.2 = X.env.qual ++ "<lambda>") ∧ P ∈ w.M
  ml : ∀ k params scope body, Nm.lamB k params scope body = true → FA.ml k ⟨X.env.qual ++ "<lambda>", params, body, scope⟩ ∧ (∀ y ∈ scope.names, y.2 ≠ .free) ∧ ∀ env, defaultsOf params env = ([], [])
structure ScM (Nm : Names) (FA : Fns) (X : Cx) (w : W0) (sc : Scope) : Prop extends ScR X sc where
  mks : Nm.mks = true → MkOk Nm FA X w
def bltNames : List Str := ["len", "abs", "sum", "max", "min", "int", "list", "tuple", "sorted", "all", "str", "repr", "range", "enumerate", "isinstance", "bool", "set", "super"]
structure Cok (Nm : Names) (FA : Fns) (CA : Nat → Option Addr) (C : Cfg) (X : Cx) (W : WX) : Prop where
  calm : X.calm = true
  nd : X.N.Nodup
  un : X.A.units + 65 < cLine
  takes : Takes X W
  fns : ∀ f a, FA f = some a → ∃ x k fd, Nm.fn f = some x ∧ X.mg x = some (.ref a) ∧ PySem.W.keepIn X.K (.ref a) = true ∧ Binds X.K fd (Nm.pars f) [] ∧ Room k X.A ∧
    FnG X.prog X.w X.K X.mg X.base (CX X.prog X.w) k a fd (Nm.pars f) (spG X.K FA CA (C.sig f) (C.call f)) ∧
    ∀ n ks perm, (f, n, ks, perm) ∈ Nm.kw → ∀ (s : Shared) (us ws : List Value), X.K.In s.heap → us.length = n → ws.length = ks.length → BindsTo s fd ⟨us, ks.zip ws⟩ ((Nm.pars f).zip (permL .none us ws perm))
  lam : ∀ k L, FA.ml k L → ∃ n ps, Room n X.A ∧ (∀ (c : Addr) (pm ctv : Value) (us : List Value), us.length = ps.length → bindArgs (L.fd c pm ctv) ⟨us, []⟩ = pure (ps.zip us)) ∧
    ∀ f c pm ctv, FnG X.prog X.w X.K X.mg X.base (CX X.prog X.w) n f (L.fd c pm ctv) ps (spK X.K FA CA (C.sig k) (C.call k) f c L pm ctv)
  has : ∀ f x, Nm.fn f = some x → ∃ a, FA f = some a
  kns : ∀ j x i, Nm.kn j = some (x, i) → ∃ t, X.mg x = some (.int i t)
  blt : ∀ x ∈ bltNames, X.mg x = none
  gd : X.A.guards = some []
  rm : Room 2 X.A
  ca : CA = FA.ca
  cls : ∀ c x, Nm.cl c = some x → ∃ a, FA.ca c = some a ∧ X.mg x = some (.ref a)
  clf : ∀ c a, FA.ca c = some a → ClsF X a
  isc : ∀ c a k b, FA.ca c = some a → FA.ca k = some b → PySem.W.kitOne X.K (.ref a) (.ref b) = some (c == k)
  fit : ∀ x, Nm.fit = some x → ∃ b, X.mg x = some (.ref b) ∧ ∀ c a, FA.ca c = some a → PySem.W.exmOne X.K (.ref a) (.ref b) = some true
theorem takesF {X : Cx} : Takes X (fun _ _ _ _ => False) := fun _ _ ⟨_, _, _, _, _, _, _, _, _, _, _, _, _, _, _, _, z⟩ => z.elim
theorem Cok.blk {Nm : Names} {FA : Fns} {CA : Nat → Option Addr} {C : Cfg} {X : Cx} {W : WX} (c : Cok Nm FA CA C X W) (s : Shared) (H : Hp) (scope : Scope) (cenv : PySem.Env) (fp : List Addr) :
    Cok Nm FA CA C (X.blk s H scope cenv fp) (fun _ _ _ _ => False) :=
  ⟨c.calm, c.nd, c.un, takesF, c.fns, c.lam, c.has, c.kns, c.blt, c.gd, c.rm, c.ca, c.cls, fun k a h => let q := c.clf k a h; ⟨q.ini, q.xf, q.ex⟩, c.isc, c.fit⟩
/-! ### readings -/
section
variable (K : PySem.W.Frag) (FA : Fns) (CA : Nat → Option Addr) (W : WX) (w : W0)
/-- the end of an expression -/
def Post (pu : Bool) (σ : L2.St) (F H : Hp) (ts : List (Option V × O)) (Q : VK) : R O → Prop
  | .ok o env' => ∀ v H' F', env'.length = σ.length → Hs K FA w F' H' ((some v, o) :: (lv σ env' ++ ts)) → Sub F F' → (pu = true → Sub H H' ∧ Fresh K FA F' H H' v o) → Q v H'
  | .ex c ds => ∀ H' F' od a, CA c = some a → Sub F F' → HR w F' H' → ExcAt K FA F' H' ds od → W (.ref a) od σ H'
  | .no => False
def tE (C : Cfg) (m : X) : TE := fun σ H Q => ∃ F ts env, env.length = σ.length ∧ Hs K FA w F H (lv σ env ++ ts) ∧ Post K FA CA W w (pureX m) σ F H ts Q (evalE C m env)
def PostV (pu fl : Bool) (σ : L2.St) (F H : Hp) (ts : List (Option V × O)) (Q : VK) : R D → Prop
  | .ok d env' => ∀ v H' F', env'.length = σ.length → Hs K FA w F' H' (lv σ env' ++ ts) → RepV K FA F' H' v d → (fl = false → Rep K FA F' v d) → Sub F F' → (pu = true → Sub H H') → Q v H'
  | .ex c ds => ∀ H' F' od a, CA c = some a → Sub F F' → HR w F' H' → ExcAt K FA F' H' ds od → W (.ref a) od σ H'
  | .no => False
def tV (C : Cfg) (fl : Bool) (m : X) : TE := fun σ H Q => ∃ F ts env, env.length = σ.length ∧ Hs K FA w F H (lv σ env ++ ts) ∧ PostV K FA CA W w (pureX m) fl σ F H ts Q (viewE fl m (evalE C m env) env)
end
end RF
/-! RFe: operators. -/
namespace RF
open L2 PySem PySem.Spec PyProof.Rows
theorem PE.imp {X : Cx} {e : Expr} {t t' : TE} (h : PE X e t) (i : ∀ σ H Q, t' σ H Q → t σ H Q) : PE X e t' := ⟨fun pins s σ H Q I q => h.run pins s σ H Q I (i _ _ _ q)⟩
theorem PT.imp {X : Cx} {e : Expr} {t t' : TT} (h : PT X e t) (i : ∀ σ H Q, t' σ H Q → t σ H Q) : PT X e t' := ⟨fun pins s σ H Q I q => h.run pins s σ H Q I (i _ _ _ q)⟩
theorem PA.imp {X : Cx} {e : List Expr} {t t' : TA} (h : PA X e t) (i : ∀ σ H Q, t' σ H Q → t σ H Q) : PA X e t' := ⟨fun pos pins s σ H Q I q => h.run pos pins s σ H Q I (i _ _ _ q)⟩
/-! ### data -/
mutual
theorem Rep.dp {K : PySem.W.Frag} {FA : Fns} {H : Hp} : ∀ (n : Nat) {d : D} {v : V}, d.ok n = true → Rep K FA H v d → Dp K H v d.py ∧ d.py.canLay0 = true ∧ d.py.depth ≤ n
  | _, _, _, _, .non => ⟨by simp only [D.py]; exact .non, by simp [D.py, PyData.canLay0], by simp [D.py, PyData.depth]⟩
  | _, _, _, _, .bl b => ⟨by simp only [D.py]; exact .bl b, by simp [D.py, PyData.canLay0], by simp [D.py, PyData.depth]⟩
  | _, _, _, _, .int i => ⟨by simp only [D.py]; exact .int i, by simp [D.py, PyData.canLay0], by simp [D.py, PyData.depth]⟩
  | n, .str x, _, e, .str _ => ⟨by simp only [D.py]; exact .str x, by cases n <;> simpa [D.py, PyData.canLay0, D.ok] using e, by simp [D.py, PyData.depth]⟩
  | 0, .lst _, _, e, _ => by simp [D.ok] at e
  | n + 1, .lst ds, _, e, .lst h r => by
    obtain ⟨h1, h2, h3⟩ := Reps.dp n (by simpa [D.ok] using e) r
    refine ⟨by simp only [D.py]; exact .lst (.of h) h1, by simpa [D.py, PyData.canLay0] using h2, ?_⟩
    simp only [D.py, PyData.depth]; omega
  | 0, .tup _, _, e, _ => by simp [D.ok] at e
  | n + 1, .tup ds, _, e, .tup h r => by
    obtain ⟨h1, h2, h3⟩ := Reps.dp n (by simpa [D.ok] using e) r
    refine ⟨by simp only [D.py]; exact .tup (.of h) h1, by simpa [D.py, PyData.canLay0] using h2, ?_⟩
    simp only [D.py, PyData.depth]; omega
  | n, .scr _, _, e, _ => by cases n <;> simp [D.ok] at e
  | n, .fn _, _, e, _ => by cases n <;> simp [D.ok] at e
  | n, .clo _ _, _, e, _ => by cases n <;> simp [D.ok] at e
  | n, .exc _ _, _, e, _ => by cases n <;> simp [D.ok] at e
theorem Reps.dp {K : PySem.W.Frag} {FA : Fns} {H : Hp} : ∀ (n : Nat) {ds : List D} {vs : List V}, (∀ d ∈ ds, d.ok n = true) → Reps K FA H vs ds → DpAll K H vs (D.pys ds) ∧ PyData.canLayAll0 (D.pys ds) = true ∧ PyData.depthAll (D.pys ds) ≤ n
  | n, _, _, _, .nil => ⟨by simp only [D.pys]; exact .nil, by simp [D.pys, PyData.canLayAll0], by simp [D.pys, PyData.depthAll]⟩
  | n, _, _, e, .cons h r => by
    obtain ⟨a1, a2, a3⟩ := Rep.dp n (e _ List.mem_cons_self) h
    obtain ⟨b1, b2, b3⟩ := Reps.dp n (fun d m => e d (List.mem_cons_of_mem _ m)) r
    refine ⟨by simp only [D.pys]; exact .cons a1 b1, by simp [D.pys, PyData.canLayAll0, a2, b2], ?_⟩
    simp only [D.pys, PyData.depthAll]; omega
end
theorem Rep.shaped {K : PySem.W.Frag} {FA : Fns} {H : Hp} {d : D} {v : V} (e : d.ok 60 = true) (r : Rep K FA H v d) : Dp K H v d.py ∧ SeqAt.shaped d.py = true := by
  obtain ⟨h1, h2, h3⟩ := r.dp 60 e
  exact ⟨h1, by unfold SeqAt.shaped; rw [h2, decide_eq_true (show d.py.depth ≤ 64 by omega)]; rfl⟩
/-! ### binary operators -/
section
variable {X : Cx}
/-- // by any divisor but nought -/
theorem op_fdivNW : OpR X (binaryOp .FloorDiv) (rI (fun _ j => j ≠ 0 ∧ j.natAbs.log2 < 9000) fun i j => .int (i.fdiv j)) := opI fun _ _ _ _ _ _ _ hc q => floordiv_int hc.1 q (.inl (PyProof.noPylong_of_log2 hc.2))
theorem op_powW : OpR X (binaryOp .Pow) (rI (fun i j => 0 ≤ j ∧ i.natAbs.log2 + 1 ≤ 3000 ∧ j ≤ 3000) fun i j => .int (i ^ j.toNat)) := opI fun i j _ _ _ _ _ hc q => by
  refine pow_int hc.1 ?_ q
  have b : Builtin.Int.intBits i ≤ i.natAbs.log2 + 1 := by
    unfold Builtin.Int.intBits
    split <;> omega
  have h1 : ((Builtin.Int.intBits i : Nat) : Int) ≤ 3000 := by omega
  have h2 : ((Builtin.Int.intBits i : Nat) : Int) * j ≤ 3000 * 3000 := Int.mul_le_mul h1 hc.2.2 hc.1 (by decide)
  exact Int.le_trans h2 (by decide)
def rBop (K : PySem.W.Frag) : Bop → R2
  | .add => fun x y H Q => rI0 (fun i j => .int (i + j)) x y H Q ∨ rCat x y H Q
  | .sub => rI0 fun i j => .int (i - j)
  | .mul => fun x y H Q => rI CMulW (fun i j => .int (i * j)) x y H Q ∨ rRep x y H Q
  | .fdiv => rI (fun _ j => j ≠ 0 ∧ j.natAbs.log2 < 9000) fun i j => .int (i.fdiv j)
  | .mod => rI (fun _ j => j ≠ 0) fun i j => .int (i.fmod j)
  | .pow => rI (fun i j => 0 ≤ j ∧ i.natAbs.log2 + 1 ≤ 3000 ∧ j ≤ 3000) fun i j => .int (i ^ j.toNat)
theorem op_bop {o : Bop} {op : Operator} (h : bopIs o op = true) : OpR X (binaryOp op) (rBop X.K o) := by
  cases o <;> cases op <;> first | (exact absurd h (by decide)) | skip
  · exact op_add.or op_cat
  · exact op_sub
  · exact op_mulW.or op_rep
  · exact op_fdivNW
  · exact op_modN
  · exact op_powW
theorem mulOk_ok {i j : Int} (h : mulOk i j = true) : CMulW i j := of_decide_eq_true (p := i.natAbs.log2 + j.natAbs.log2 < 1000000) h
theorem line20 {n m : Nat} (h : n < 2 ^ 20) (h' : m < 2 ^ 20) : n + m ≤ sizeLine := by
  have e : (sizeLine : Nat) = 2 ^ 24 := rfl
  omega
variable {FA : Fns} {w : W0} {F F' H H' : Hp} {ps : List (Option V × O)} {v x y : V} {o : O} {dx dy : D}
/-- a new value's state -/
def Done (K : PySem.W.Frag) (FA : Fns) (w : W0) (F H : Hp) (ps : List (Option V × O)) (o : O) (Q : VK) : Prop :=
  ∀ v H' F', Hs K FA w F' H' ((some v, o) :: ps) → Sub F F' → Sub H H' → Fresh K FA F' H H' v o → Q v H'
theorem Done.z {K : PySem.W.Frag} {d : D} {Q : VK} (h : Done K FA w F H ps (.z d) Q) (s : Hs K FA w F H ps) (r : Rep K FA F v d) : Q v H :=
  h v H F (s.add r) (Sub.refl _) (Sub.refl _) ⟨[], .z r, fun _ m => nomatch m⟩
theorem sub_upd {p : Addr} {ob : HO} (hp : H p = none) : Sub H (upd H p ob) := fun b z e => by rw [upd_ne (ne_of_none e hp)]; exact e
theorem Hs.freshList {K : PySem.W.Frag} {ds : List D} {vs : List V} {p : Addr} {Q : VK} (h : Done K FA w F H ps (.l (ds.map .z)) Q) (s : Hs K FA w F H ps) (r : Reps K FA F vs ds) (hp : H p = none) : Q (.ref p) (upd H p (.lst vs)) := by
  have s1 := s.newList r hp
  refine h _ _ F s1 (Sub.refl _) (sub_upd hp) ⟨[p], .l (A := []) upd_same (RepOs.of_reps r), fun a m => ?_⟩
  rw [List.mem_singleton.mp m]; exact hp
theorem bop_ok {K : PySem.W.Frag} {b : Bop} {Q : VK} (s : Hs K FA w F H ps) (hx : RepV K FA F H x dx) (hy : RepV K FA F H y dy) (e : binop b dx dy = some o) (h : Done K FA w F H ps o Q) : rBop K b x y H Q := by
  have two : ∀ {i j : Int}, dx = .int i → dy = .int j → x = .int i ∧ y = .int j := fun e1 e2 => by
    subst e1; subst e2
    exact ⟨hx.int, hy.int⟩
  unfold binop at e
  split at e
  · obtain ⟨rfl, rfl⟩ := two rfl rfl
    cases e
    exact .inl ⟨_, _, rfl, rfl, h.z s (.int _)⟩
  · split at e
    · rename_i hl
      cases e
      obtain ⟨a, vs, rfl, h1, r1⟩ := hx.lst s.1.sub
      obtain ⟨a', vs', rfl, h2, r2⟩ := hy.lst s.1.sub
      have hl' : (_ ∧ _) := Bool.and_eq_true_iff.mp hl
      exact .inr ⟨a, a', vs, vs', rfl, rfl, h1, h2, by
        rw [r1.length, r2.length]
        exact line20 (of_decide_eq_true hl'.1) (of_decide_eq_true hl'.2), fun p hp => Hs.freshList h s (r1.append r2) hp⟩
    · cases e
  · obtain ⟨rfl, rfl⟩ := two rfl rfl
    cases e
    exact ⟨_, _, rfl, rfl, h.z s (.int _)⟩
  · split at e
    · rename_i hm
      obtain ⟨rfl, rfl⟩ := two rfl rfl
      cases e
      exact .inl ⟨_, _, rfl, rfl, mulOk_ok hm, h.z s (.int _)⟩
    · cases e
  · split at e
    · rename_i hm
      cases e
      obtain ⟨a, vs, rfl, h1, r1⟩ := hx.lst s.1.sub
      have ey := hy.int
      subst ey
      have hm1 := Bool.and_eq_true_iff.mp hm
      have hm2 := Bool.and_eq_true_iff.mp hm1.1
      have b1 := of_decide_eq_true hm1.2
      have b2 := of_decide_eq_true hm2.1
      have b3 := of_decide_eq_true hm2.2
      refine .inr ⟨a, _, vs, rfl, rfl, h1, by omega, by omega, ?_, fun p hp => Hs.freshList h s (r1.rep _) hp⟩
      rw [r1.length]
      have : (sizeLine : Nat) = 2 ^ 24 := rfl
      rw [this]
      refine Nat.le_trans (Nat.mul_le_mul (Nat.le_of_lt b2) (show _ ≤ 1024 by omega)) (by decide)
    · cases e
  · split at e
    · rename_i hm
      obtain ⟨rfl, rfl⟩ := two rfl rfl
      cases e
      have hm' := Bool.and_eq_true_iff.mp hm
      exact ⟨_, _, rfl, rfl, ⟨of_decide_eq_true hm'.1, of_decide_eq_true hm'.2⟩, h.z s (.int _)⟩
    · cases e
  · split at e
    · rename_i hm
      obtain ⟨rfl, rfl⟩ := two rfl rfl
      cases e
      exact ⟨_, _, rfl, rfl, of_decide_eq_true hm, h.z s (.int _)⟩
    · cases e
  · split at e
    · rename_i hm
      obtain ⟨rfl, rfl⟩ := two rfl rfl
      cases e
      have hm1 := Bool.and_eq_true_iff.mp hm
      have hm2 := Bool.and_eq_true_iff.mp hm1.1
      exact ⟨_, _, rfl, rfl, ⟨of_decide_eq_true hm2.1, of_decide_eq_true hm2.2, of_decide_eq_true hm1.2⟩, h.z s (.int _)⟩
    · cases e
  · cases e
/-! ### comparisons -/
theorem plain_bl {x : V} {v : Value} {b : Bool} (r : RelV x v) : plainIs v (.bool b) = true := by
  cases x <;> first | (obtain ⟨t, rfl⟩ := r; rfl) | (cases r; rfl)
theorem op_isB : OpR X (compareOp .Is) (fun x y H Q => ∃ b, y = .bl b ∧ Q (.bl (decide (x = .bl b))) H) := by
  intro pins s σ H x y v u Q I rx ry h
  obtain ⟨b, rfl, q⟩ := h
  cases (show u = Value.bool b from ry)
  refine wpAny_is_plain (plain_bl rx) ⟨.bl _, H, I, ?_, q⟩
  show _ = _
  congr 1
  by_cases e : x = .bl b
  · subst e
    cases (show v = Value.bool b from rx)
    simp
  · rw [decide_eq_false e]
    refine beq_eq_false_iff_ne.mpr fun z => e ?_
    subst z
    exact RelV.inj (u := .bool b) rx rfl
theorem op_isnB : OpR X (compareOp .IsNot) (fun x y H Q => ∃ b, y = .bl b ∧ Q (.bl (!decide (x = .bl b))) H) := by
  intro pins s σ H x y v u Q I rx ry h
  obtain ⟨b, rfl, q⟩ := h
  cases (show u = Value.bool b from ry)
  refine wpAny_isNot_plain (plain_bl rx) ⟨.bl _, H, I, ?_, q⟩
  show _ = _
  congr 2
  by_cases e : x = .bl b
  · subst e
    cases (show v = Value.bool b from rx)
    simp
  · rw [decide_eq_false e]
    refine beq_eq_false_iff_ne.mpr fun z => e ?_
    subst z
    exact RelV.inj (u := .bool b) rx rfl
def rCop (K : PySem.W.Frag) : Cop → R2
  | .eq => rEqD K
  | .ne => rNeD K
  | .lt => fun x y H Q => rI0 (fun i j => .bl (decide (i < j))) x y H Q ∨ rLtT K x y H Q
  | .le => rI0 fun i j => .bl (decide (i ≤ j))
  | .gt => rI0 fun i j => .bl (decide (j < i))
  | .ge => fun x y H Q => rI0 (fun i j => .bl (decide (j ≤ i))) x y H Q ∨ RX.rGeP K x y H Q
  | .mem => rInD K
  | .nmem => rNotInD K
  | .is => fun x y H Q => (y = .non ∧ Q (.bl (decide (x = .non))) H) ∨ ∃ b, y = .bl b ∧ Q (.bl (decide (x = .bl b))) H
  | .isn => fun x y H Q => (y = .non ∧ Q (.bl (!decide (x = .non))) H) ∨ ∃ b, y = .bl b ∧ Q (.bl (!decide (x = .bl b))) H
theorem op_cop {o : Cop} {op : CmpOp} (hu : X.A.units + 65 < cLine) (h : copIs o op = true) : OpR X (compareOp op) (rCop X.K o) := by
  cases o <;> cases op <;> first | (exact absurd h (by decide)) | skip
  · exact op_eqD (by omega)
  · exact op_neD (by omega)
  · exact op_lt.or (op_ltT (by omega))
  · exact op_le
  · exact op_gt
  · exact op_ge.or (RX.op_geP (by omega))
  · exact op_inD hu
  · exact op_notInD hu
  · exact op_isN.or op_isB
  · exact op_notN.or op_isnB
theorem any_py {a : D} : ∀ {ds : List D}, (D.pys ds).any (fun z => PyData.eqv z a.py) = ds.any fun z => D.eqv z a
  | [] => rfl
  | d :: ds => by simp only [D.pys, List.any_cons, any_py]; rfl
theorem RepV.non (h : RepV X.K FA F H x .non) : x = .non := by
  cases h with
  | rep h => cases h; rfl
theorem RepV.bl {b : Bool} (h : RepV X.K FA F H x (.bl b)) : x = .bl b := by
  cases h with
  | rep h => cases h; rfl
theorem isn_iff (h : RepV X.K FA F H x dx) : decide (x = V.non) = dx.isNon := by
  cases h with
  | rep h => cases h <;> rfl
  | l h r => rfl
theorem isb_iff {b : Bool} (h : RepV X.K FA F H x dx) : decide (x = V.bl b) = dx.isBl b := by
  cases h with
  | rep h =>
    cases h <;> first | rfl | skip
    rename_i c
    by_cases e : c = b
    · subst e; simp [D.isBl]
    · have : ¬ V.bl c = V.bl b := fun z => e (V.bl.inj z)
      rw [decide_eq_false this]
      exact (beq_eq_false_iff_ne.mpr (Ne.symm e)).symm
  | l h r => rfl
theorem RepV.tupInts {ns : List Int} (h : RepV X.K FA F H x dx) (s : Sub F H) (e : tupInts? dx = some ns) : ∃ a, x = .ref a ∧ SqT X.K H a (ns.map V.int) := by
  cases dx with
  | tup ds =>
    obtain ⟨a, vs, rfl, h1, r⟩ := h.tup s
    obtain ⟨rfl, _⟩ := r.of_ints (show ints? ds = some ns from e)
    exact ⟨a, rfl, .of h1⟩
  | _ => simp [tupInts?] at e
theorem cop_ok {b : Cop} {k : Bool} {Q : VK} (s : Hs X.K FA w F H ps) (hx : RepV X.K FA F H x dx) (hy : RepV X.K FA F H y dy) (e : cmpop b dx dy = some k) (h : Q (.bl k) H) : rCop X.K b x y H Q := by
  have two : ∀ {i j : Int}, dx = .int i → dy = .int j → x = .int i ∧ y = .int j := fun e1 e2 => by
    subst e1; subst e2
    exact ⟨hx.int, hy.int⟩
  have vx := hx.view s.1.sub
  have vy := hy.view s.1.sub
  unfold cmpop at e
  split at e
  · split at e
    · rename_i hm
      cases e
      have hm' := Bool.and_eq_true_iff.mp hm
      exact ⟨_, _, (vx.shaped hm'.1).1, (vy.shaped hm'.2).1, (vx.shaped hm'.1).2, (vy.shaped hm'.2).2, h⟩
    · cases e
  · split at e
    · rename_i hm
      cases e
      have hm' := Bool.and_eq_true_iff.mp hm
      exact ⟨_, _, (vx.shaped hm'.1).1, (vy.shaped hm'.2).1, (vx.shaped hm'.1).2, (vy.shaped hm'.2).2, h⟩
    · cases e
  · obtain ⟨rfl, rfl⟩ := two rfl rfl
    cases e
    exact .inl ⟨_, _, rfl, rfl, h⟩
  · cases e1 : tupInts? dx with
    | none => rw [e1] at e; cases e
    | some ns =>
      rw [e1] at e
      cases e2 : tupInts? dy with
      | none => rw [e2] at e; cases e
      | some ms =>
        rw [e2] at e
        cases e
        obtain ⟨a, rfl, h1⟩ := hx.tupInts s.1.sub e1
        obtain ⟨a', rfl, h2⟩ := hy.tupInts s.1.sub e2
        exact .inr ⟨a, a', ns, ms, rfl, rfl, h1, h2, h⟩
  · obtain ⟨rfl, rfl⟩ := two rfl rfl
    cases e
    exact ⟨_, _, rfl, rfl, h⟩
  · obtain ⟨rfl, rfl⟩ := two rfl rfl
    cases e
    exact ⟨_, _, rfl, rfl, h⟩
  · obtain ⟨rfl, rfl⟩ := two rfl rfl
    cases e
    exact .inl ⟨_, _, rfl, rfl, h⟩
  · rename_i i j k l
    cases e
    obtain ⟨a, rfl, h1⟩ := hx.tupInts (ns := [i, j]) s.1.sub rfl
    obtain ⟨a', rfl, h2⟩ := hy.tupInts (ns := [k, l]) s.1.sub rfl
    exact .inr ⟨a, a', i, j, k, l, rfl, rfl, h1, h2, h⟩
  · split at e
    · rename_i hm
      cases e
      have hm' := Bool.and_eq_true_iff.mp hm
      have h1 := vx.shaped hm'.1
      have h2 := vy.shaped hm'.2
      simp only [D.py] at h2
      refine ⟨_, _, h1.1, h2.1, h1.2, h2.2, ?_⟩
      rw [any_py]; exact h
    · cases e
  · split at e
    · rename_i hm
      cases e
      have hm' := Bool.and_eq_true_iff.mp hm
      have h1 := vx.shaped hm'.1
      have h2 := vy.shaped hm'.2
      simp only [D.py] at h2
      refine ⟨_, _, h1.1, h2.1, h1.2, h2.2, ?_⟩
      rw [any_py]; exact h
    · cases e
  · cases e
    exact .inl ⟨hy.non, by rw [isn_iff hx]; exact h⟩
  · cases e
    exact .inr ⟨_, hy.bl, by rw [isb_iff hx]; exact h⟩
  · cases e
    refine .inl ⟨hy.non, ?_⟩
    rw [isn_iff hx]
    exact h
  · cases e
    refine .inr ⟨_, hy.bl, ?_⟩
    rw [isb_iff hx]
    exact h
  · cases e
end
end RF
/-! RFf: built-ins, isinstance, items, slices. -/
namespace RF
open L2 PySem PySem.Spec PyProof.Rows
inductive RepVs (K : PySem.W.Frag) (FA : Fns) (F H : Hp) : List V → List D → Prop
  | nil : RepVs K FA F H [] []
  | cons {v : V} {d : D} {vs : List V} {ds : List D} : RepV K FA F H v d → RepVs K FA F H vs ds → RepVs K FA F H (v :: vs) (d :: ds)
section
variable {K : PySem.W.Frag} {FA : Fns} {w : W0} {F F' H H' : Hp} {ps : List (Option V × O)} {v x y : V} {o : O} {d dx dy : D}
theorem RepVs.one {vs : List V} (h : RepVs K FA F H vs [d]) : ∃ v, vs = [v] ∧ RepV K FA F H v d := by
  cases h with
  | cons h r => cases r; exact ⟨_, rfl, h⟩
theorem RepVs.two {vs : List V} (h : RepVs K FA F H vs [dx, dy]) : ∃ v u, vs = [v, u] ∧ RepV K FA F H v dx ∧ RepV K FA F H u dy := by
  cases h with
  | cons h r =>
    cases r with
    | cons h' r => cases r; exact ⟨_, _, rfl, h, h'⟩
/-! ### the types of values -/
def tyName : D → String
  | .non => "NoneType" | .bl _ => "bool" | .int _ => "int" | .str _ => "str" | .lst _ => "list" | .tup _ => "tuple" | _ => ""
theorem RepV.ty (h : RepV K FA F H v d) (s : Sub F H) (e : isiV .int d ≠ none) : TyX K H v (.type (tyName d)) := by
  refine .base ?_
  cases h with
  | rep h =>
    cases h with
    | non => exact .non
    | bl b => exact .bl b
    | int i => exact .int i
    | str x => exact .str x
    | lst h r => exact .lst (s _ _ h)
    | tup h r => exact .tup (s _ _ h)
    | scr h => exact absurd rfl e
    | fn h => exact absurd rfl e
    | clo h1 h2 h3 => exact absurd rfl e
    | exc h1 h2 h3 r => exact absurd rfl e
  | l h r => exact .lst h
def tyStr : Ty → String
  | .int => "int" | .bool => "bool" | .str => "str" | .list => "list" | .tuple => "tuple" | .lt => "list"
theorem isi_some {t : Ty} {d : D} {b : Bool} (e : isiV t d = some b) : isiV .int d ≠ none := by
  cases d <;> first | (simp [isiV]; done) | (cases t <;> simp [isiV] at e)
theorem isi_kit {K : PySem.W.Frag} {t : Ty} {d : D} {b : Bool} (ht : t ≠ .lt) (e : isiV t d = some b) : PySem.W.kitOne K (.type (tyName d)) (.type (tyStr t)) = some b := by
  refine kit_ty ?_
  cases t <;> first | (exact absurd rfl ht) | skip
  all_goals (cases d <;> simp [isiV] at e <;> subst e <;> simp only [tyName, tyStr] <;> decide +kernel)
theorem isi_kit2 {K : PySem.W.Frag} {d : D} {b : Bool} (e : isiV .lt d = some b) : PySem.W.kitAny K (.type (tyName d)) [.type "list", .type "tuple"] = some b := by
  have n1 : ∀ {t : Value} {x y : Bool}, PySem.W.kitOne K t (.type "list") = some x → PySem.W.kitOne K t (.type "tuple") = some y → PySem.W.kitAny K t [.type "list", .type "tuple"] = some (x || y) := fun {t x y} h1 h2 => by
    refine kitAny_cons h1 (fun z => ?_) (fun z => by rw [z]; rfl)
    rw [z, Bool.false_or]
    refine kitAny_cons h2 (fun z => ?_) (fun z => z)
    rw [z]; rfl
  cases d <;> simp [isiV] at e <;> subst e <;> simp only [tyName] <;> first
    | exact n1 (x := false) (y := false) (kit_ty (by decide +kernel)) (kit_ty (by decide +kernel))
    | exact n1 (x := true) (y := false) (kit_ty (by decide +kernel)) (kit_ty (by decide +kernel))
    | exact n1 (x := false) (y := true) (kit_ty (by decide +kernel)) (kit_ty (by decide +kernel))
end
section
variable {X : Cx} {FA : Fns} {w : W0} {F F' H H' : Hp} {ps : List (Option V × O)} {v x y : V} {o : O} {d dx dy : D}
/-! ### built-ins -/
def rBlt (K : PySem.W.Frag) : Blt → List V → Hp → VK → Prop
  | .len => fun xs H Q => ∃ p ys, xs = [.ref p] ∧ (SqL K H p ys ∨ SqT K H p ys) ∧ Q (.int ys.length) H
  | .abs => fun xs H Q => ∃ i, xs = [.int i] ∧ Q (.int (if i < 0 then -i else i)) H
  | .sum => fun xs H Q => rSum K xs H Q ∨ RX.rSumL K xs H Q
  | .max2 => fun xs H Q => ∃ i j, xs = [.int i, .int j] ∧ Q (.int (if j > i then j else i)) H
  | .min2 => fun xs H Q => ∃ i j, xs = [.int i, .int j] ∧ Q (.int (if j < i then j else i)) H
  | .max1 => rMax K
  | .min1 => rMin K
  | .int => fun xs H Q => (∃ i, xs = [.int i] ∧ Q (.int i) H) ∨ ∃ k, xs = [.bl k] ∧ Q (.int (if k then 1 else 0)) H
  | .list => fun xs H Q => ∃ p ys, xs = [.ref p] ∧ (SqL K H p ys ∨ SqT K H p ys) ∧ ∀ l, H l = none → Q (.ref l) (upd H l (.lst ys))
  | .tuple => fun xs H Q => ∃ p ys, xs = [.ref p] ∧ ((SqL K H p ys ∧ ∀ l, H l = none → Q (.ref l) (upd H l (.tup ys))) ∨ (SqT K H p ys ∧ Q (.ref p) H))
  | .all => rAll K
  | .repr => fun xs H Q => ∃ (p : Addr) (d : PyData), xs = [.ref p] ∧ Dp K H (.ref p) d ∧ d.depth ≤ 60 ∧ d.showable = true ∧ d.hasDict = false ∧ d.shown.length ≤ sizeLine ∧ Q (.str d.shown) H
  | .sorted => fun xs H Q => rSortedI K xs H Q ∨ rSortedPO K xs H Q ∨ RX.rSortedLL K xs H Q
  | _ => fun _ _ _ => False
/-- the pair that a value is -/
def kP (F : Hp) : V → Int × Int
  | .ref t => match F t with
    | some (.tup [.int i, .int j]) => (i, j)
    | _ => (0, 0)
  | _ => (0, 0)
theorem Reps.of_pairs {K : PySem.W.Frag} : ∀ {ds : List D} {vs : List V} {qs : List (Int × Int)}, Reps K FA F vs ds → pairs? ds = some qs → vs.map (kP F) = qs ∧ ∀ v ∈ vs, ∃ t, v = .ref t ∧ F t = some (.tup [.int (kP F v).1, .int (kP F v).2]) ∧ Rep K FA F v (prD (kP F v))
  | [], vs, qs, r, e => by
    cases r
    cases e
    exact ⟨rfl, fun _ m => nomatch m⟩
  | d :: ds, vs, qs, r, e => by
    unfold pairs? at e
    split at e
    · rename_i z; cases z
    · rename_i i j ds' z
      cases z
      cases e2 : pairs? ds with
      | none => rw [e2] at e; cases e
      | some ps =>
        rw [e2] at e
        cases e
        cases r with
        | cons r1 r2 =>
          obtain ⟨q1, q2⟩ := Reps.of_pairs r2 e2
          have r0 := r1
          cases r1 with
          | tup h1 h2 =>
            rename_i a us
            cases h2 with
            | cons a1 a2 => cases a2 with
              | cons b1 b2 =>
                cases b2
                cases a1
                cases b1
                have ek : kP F (.ref a) = (i, j) := by unfold kP; simp only [h1]
                refine ⟨by rw [List.map_cons, ek, q1], fun v hv => ?_⟩
                rcases List.mem_cons.mp hv with rfl | hv
                · rw [ek]
                  exact ⟨a, rfl, h1, r0⟩
                · exact q2 v hv
    · cases e
def vI : V → Int
  | .int i => i
  | _ => 0
/-- the list of ints that a value is -/
def kL (F : Hp) : V → List Int
  | .ref t => match F t with
    | some (.lst vs) => vs.map vI
    | _ => []
  | _ => []
theorem vI_map (ns : List Int) : (ns.map V.int).map vI = ns := by
  rw [List.map_map]
  exact (List.map_congr_left fun _ _ => rfl).trans (List.map_id ns)
theorem Reps.of_ilists {K : PySem.W.Frag} : ∀ {ds : List D} {vs : List V} {qs : List (List Int)}, Reps K FA F vs ds → ilists? ds = some qs → vs.map (kL F) = qs ∧ ∀ v ∈ vs, ∃ t, v = .ref t ∧ F t = some (.lst ((kL F v).map V.int)) ∧ Rep K FA F v (ilD (kL F v))
  | [], vs, qs, r, e => by
    cases r
    cases e
    exact ⟨rfl, fun _ m => nomatch m⟩
  | d :: ds, vs, qs, r, e => by
    unfold ilists? at e
    split at e
    · rename_i z; cases z
    · rename_i us ds' z
      cases z
      cases e3 : ints? us with
      | none => rw [e3] at e; cases e
      | some ns =>
        rw [e3] at e
        cases e2 : ilists? ds with
        | none => rw [e2] at e; cases e
        | some ps =>
          rw [e2] at e
          cases e
          cases r with
          | cons r1 r2 =>
            obtain ⟨q1, q2⟩ := Reps.of_ilists r2 e2
            have r0 := r1
            cases r1 with
            | lst h1 h2 =>
              rename_i a ws
              obtain ⟨rfl, rfl⟩ := h2.of_ints e3
              have ek : kL F (.ref a) = ns := by unfold kL; simp only [h1]; exact vI_map ns
              refine ⟨by rw [List.map_cons, ek, q1], fun v hv => ?_⟩
              rcases List.mem_cons.mp hv with rfl | hv
              · rw [ek]
                exact ⟨a, rfl, h1, r0⟩
              · exact q2 v hv
    · cases e
/-- the items of a list -/
def kI (F : Hp) : V → List V
  | .ref t => match F t with
    | some (.lst vs) => vs
    | _ => []
  | _ => []
theorem Reps.of_lists {K : PySem.W.Frag} : ∀ {ds : List D} {vs : List V} {qs : List (List D)}, Reps K FA F vs ds → lists? ds = some qs → (∀ v ∈ vs, ∃ t, v = .ref t ∧ F t = some (.lst (kI F v))) ∧ Reps K FA F (vs.map (kI F)).flatten qs.flatten ∧ (vs = [] → qs = [])
  | [], vs, qs, r, e => by
    cases r
    cases e
    exact ⟨(fun _ m => nomatch m), .nil, fun _ => rfl⟩
  | d :: ds, vs, qs, r, e => by
    unfold lists? at e
    split at e
    · rename_i z; cases z
    · rename_i us ds' z
      cases z
      cases e2 : lists? ds with
      | none => rw [e2] at e; cases e
      | some ps =>
        rw [e2] at e
        cases e
        cases r with
        | cons r1 r2 =>
          obtain ⟨q1, q2, q3⟩ := Reps.of_lists r2 e2
          clear q3
          cases r1 with
          | lst h1 h2 =>
            rename_i a ws
            have ek : kI F (.ref a) = ws := by unfold kI; simp only [h1]
            refine ⟨fun v hv => ?_, ?_, fun z => by cases z⟩
            · rcases List.mem_cons.mp hv with rfl | hv
              · rw [ek]
                exact ⟨a, rfl, h1⟩
              · exact q1 v hv
            · rw [List.map_cons, ek, List.flatten_cons, List.flatten_cons]
              exact h2.append q2
    · cases e
theorem Reps.of_all {K : PySem.W.Frag} {f : V → D} : ∀ {vs : List V}, (∀ v ∈ vs, Rep K FA F v (f v)) → Reps K FA F vs (vs.map f)
  | [], _ => .nil
  | v :: vs, h => .cons (h v List.mem_cons_self) (Reps.of_all fun u hu => h u (List.mem_cons_of_mem _ hu))
theorem max_uniq {ns : List Int} {m k : Int} (e : ns.max? = some m) (h1 : k ∈ ns) (h2 : ∀ y, y ∈ ns → y ≤ k) : k = m := by
  have h := List.max?_eq_some_iff.mp e
  exact Int.le_antisymm (h.2 k h1) (h2 m h.1)
theorem min_uniq {ns : List Int} {m k : Int} (e : ns.min? = some m) (h1 : k ∈ ns) (h2 : ∀ y, y ∈ ns → k ≤ y) : k = m := by
  have h := List.min?_eq_some_iff.mp e
  exact Int.le_antisymm (h2 m h.1) (h.2 k h1)
theorem blt_ok {b : Blt} {vs : List V} {ds : List D} {Q : VK} (s : Hs X.K FA w F H ps) (hv : RepVs X.K FA F H vs ds) (e : bltV b ds = some o) (h : Done X.K FA w F H ps o Q) : rBlt X.K b vs H Q := by
  have sb := s.1.sub
  unfold bltV at e
  split at e
  · obtain ⟨v, rfl, r⟩ := hv.one
    cases e
    obtain ⟨a, us, rfl, h1, r1⟩ := r.lst sb
    refine ⟨a, us, rfl, .inl (.of h1), ?_⟩
    rw [r1.length]
    exact h.z s (.int _)
  · obtain ⟨v, rfl, r⟩ := hv.one
    cases e
    obtain ⟨a, us, rfl, h1, r1⟩ := r.tup sb
    refine ⟨a, us, rfl, .inr (.of h1), ?_⟩
    rw [r1.length]
    exact h.z s (.int _)
  · obtain ⟨v, rfl, r⟩ := hv.one
    cases e
    obtain ⟨a, rfl, h1⟩ := r.scr sb
    refine ⟨a, _, rfl, .inl h1, ?_⟩
    rw [List.length_map]
    exact h.z s (.int _)
  · obtain ⟨v, rfl, r⟩ := hv.one
    cases e
    obtain rfl := r.int
    exact ⟨_, rfl, h.z s (.int _)⟩
  · obtain ⟨v, rfl, r⟩ := hv.one
    obtain ⟨a, us, rfl, h1, r1⟩ := r.lst sb
    cases e1 : ints? _ with
    | none => rw [e1] at e; cases e
    | some ns =>
      rw [e1] at e
      cases e
      obtain ⟨rfl, _⟩ := r1.of_ints e1
      exact .inl ⟨a, ns, rfl, .of h1, h.z s (.int _)⟩
  · obtain ⟨v, u, rfl, r, r'⟩ := hv.two
    cases e
    obtain rfl := r.int
    obtain rfl := r'.int
    exact ⟨_, _, rfl, h.z s (.int _)⟩
  · obtain ⟨v, u, rfl, r, r'⟩ := hv.two
    cases e
    obtain rfl := r.int
    obtain rfl := r'.int
    exact ⟨_, _, rfl, h.z s (.int _)⟩
  · obtain ⟨v, rfl, r⟩ := hv.one
    obtain ⟨a, us, rfl, h1, r1⟩ := r.lst sb
    cases e1 : ints? _ with
    | none => rw [e1] at e; cases e
    | some ns =>
      rw [e1] at e
      obtain ⟨rfl, _⟩ := r1.of_ints e1
      cases e2 : ns.max? with
      | none => simp [e2] at e
      | some m =>
        simp [e2] at e
        subst e
        have hm := List.max?_eq_some_iff.mp e2
        exact ⟨a, ns, rfl, .of h1, List.length_pos_of_mem hm.1, fun k k1 k2 => by rw [max_uniq e2 k1 k2]; exact h.z s (.int _)⟩
  · obtain ⟨v, rfl, r⟩ := hv.one
    obtain ⟨a, us, rfl, h1, r1⟩ := r.lst sb
    cases e1 : ints? _ with
    | none => rw [e1] at e; cases e
    | some ns =>
      rw [e1] at e
      obtain ⟨rfl, _⟩ := r1.of_ints e1
      cases e2 : ns.min? with
      | none => simp [e2] at e
      | some m =>
        simp [e2] at e
        subst e
        have hm := List.min?_eq_some_iff.mp e2
        exact ⟨a, ns, rfl, .of h1, List.length_pos_of_mem hm.1, fun k k1 k2 => by rw [min_uniq e2 k1 k2]; exact h.z s (.int _)⟩
  · obtain ⟨v, rfl, r⟩ := hv.one
    cases e
    obtain rfl := r.int
    exact .inl ⟨_, rfl, h.z s (.int _)⟩
  · obtain ⟨v, rfl, r⟩ := hv.one
    cases e
    obtain rfl := r.bl
    exact .inr ⟨_, rfl, h.z s (.int _)⟩
  · obtain ⟨v, rfl, r⟩ := hv.one
    cases e
    obtain ⟨a, us, rfl, h1, r1⟩ := r.lst sb
    exact ⟨a, us, rfl, .inl (.of h1), fun p hp => Hs.freshList h s r1 hp⟩
  · obtain ⟨v, rfl, r⟩ := hv.one
    cases e
    obtain ⟨a, us, rfl, h1, r1⟩ := r.tup sb
    exact ⟨a, us, rfl, .inr (.of h1), fun p hp => Hs.freshList h s r1 hp⟩
  · obtain ⟨v, rfl, r⟩ := hv.one
    cases e
    obtain ⟨a, us, rfl, h1, r1⟩ := r.lst sb
    refine ⟨a, us, rfl, .inl ⟨.of h1, fun p hp => ?_⟩⟩
    have s1 := s.allocT (xs := us) hp
    have fp : F p = none := by
      cases z : F p with
      | none => rfl
      | some ob => rw [sb _ _ z] at hp; cases hp
    have r2 : Rep X.K FA (upd F p (.tup us)) (.ref p) (.tup _) := .tup upd_same (r1.mono (sub_upd fp))
    exact h _ _ _ (s1.add r2) (sub_upd fp) (sub_upd hp) ⟨[], .z r2, fun _ m => nomatch m⟩
  · obtain ⟨v, rfl, r⟩ := hv.one
    obtain ⟨a, us, rfl, h1, r1⟩ := r.lst sb
    cases e1 : bls? _ with
    | none => rw [e1] at e; cases e
    | some ns =>
      rw [e1] at e
      cases e
      obtain rfl := r1.of_bls e1
      exact ⟨a, ns, rfl, .of h1, h.z s (.bl _)⟩
  · rename_i ds0
    split at e
    · rename_i hk
      cases e
      obtain ⟨v, rfl, r⟩ := hv.one
      unfold reprOk at hk
      simp only [Bool.and_eq_true, decide_eq_true_eq, Bool.not_eq_true'] at hk
      obtain ⟨⟨k1, k2, k3⟩, k4⟩ := hk
      obtain ⟨q1, q2, q3⟩ := (r.view sb).dp 60 k1
      obtain ⟨a, us, rfl, _, _⟩ := r.lst sb
      exact ⟨a, _, rfl, q1, q3, k2, k3, by omega, h.z s (.str _)⟩
    · cases e
  · obtain ⟨v, rfl, r⟩ := hv.one
    obtain ⟨a, us, rfl, h1, r1⟩ := r.lst sb
    unfold sortD at e
    split at e
    · rename_i ns e1
      cases e
      obtain ⟨rfl, _⟩ := r1.of_ints e1
      refine .inl ⟨a, ns, rfl, .of h1, fun ns' p pm so hp => ?_⟩
      rw [RX.sortI_uniq pm so]
      exact Hs.freshList h s Reps.ints hp
    · split at e
      · rename_i qs e2
        cases e
        obtain ⟨q1, q2⟩ := r1.of_pairs e2
        refine .inr (.inl ⟨a, us, kP F, rfl, .of h1, fun x hx => ?_, fun ys p so st hp => ?_⟩)
        · obtain ⟨t, rfl, z, _⟩ := q2 x hx
          exact ⟨t, rfl, sb _ _ z⟩
        · have pm : (ys.map (kP F)).Perm qs := by rw [← q1]; exact st.perm.map _
          have e3 : ys.map (kP F) = RX.sortP qs := RX.sortP_uniq pm (by
            rw [List.pairwise_map]
            exact so.imp fun {x y} z => by
              have z : SrtO.lexB (kP F y) (kP F x) = false := z
              unfold RX.leP; rw [z]; rfl)
          have r2 : Reps X.K FA F ys ((RX.sortP qs).map prD) := by
            rw [← e3, List.map_map]
            exact Reps.of_all fun v hv => by
              obtain ⟨_, _, _, z⟩ := q2 v (st.perm.subset hv)
              exact z
          exact Hs.freshList h s r2 hp
      · cases e2 : ilists? _ with
        | none => rw [e2] at e; cases e
        | some qs =>
          rw [e2] at e
          cases e
          obtain ⟨q1, q2⟩ := r1.of_ilists e2
          refine .inr (.inr ⟨a, us, kL F, rfl, .of h1, fun x hx => ?_, fun ys p so pm0 hp => ?_⟩)
          · obtain ⟨t, rfl, z, _⟩ := q2 x hx
            exact ⟨t, rfl, sb _ _ z⟩
          · have pm : (ys.map (kL F)).Perm qs := by rw [← q1]; exact pm0.map _
            have e3 : ys.map (kL F) = RX.sortL qs := RX.sortL_uniq pm (by
              rw [List.pairwise_map]
              exact so.imp fun {x y} z => RX.leL_iff.mpr z)
            have r2 : Reps X.K FA F ys ((RX.sortL qs).map ilD) := by
              rw [← e3, List.map_map]
              exact Reps.of_all fun v hv => by
                obtain ⟨_, _, _, z⟩ := q2 v (pm0.subset hv)
                exact z
            exact Hs.freshList h s r2 hp
  · rename_i ds0 zs0
    obtain ⟨v, u, rfl, r, r'⟩ := hv.two
    cases e1 : lists? ds0 with
    | none => rw [e1] at e; cases e
    | some qs =>
      rw [e1] at e
      simp only [Option.bind_some] at e
      split at e
      · rename_i hk
        cases e
        obtain ⟨k1, k2, k3⟩ := hk
        obtain ⟨a, us, rfl, h1, r1⟩ := r.lst sb
        obtain ⟨b, zs, rfl, h2, r2⟩ := r'.lst sb
        obtain ⟨q1, q2, q3⟩ := r1.of_lists e1
        refine .inr ⟨a, b, us, zs, kI F, rfl, .of h1, h2, fun z => k1 (q3 z), fun x hx => ?_, ?_, fun p hp => Hs.freshList h s (r2.append q2) hp⟩
        · obtain ⟨t, rfl, z⟩ := q1 x hx
          exact ⟨t, rfl, sb _ _ z⟩
        · rw [r2.length, q2.length]
          exact line20 (of_decide_eq_true k2) (of_decide_eq_true k3)
      · cases e
  · cases e
/-! ### items -/
theorem ix_ok {j : Int} {dd : D} {Q : VK} (s : Hs X.K FA w F H ps) (hx : RepV X.K FA F H x dx) (e : (match dx with | .lst ds => (atI ds j) | .tup ds => (atI ds j) | .scr ns => (atI ns j).map fun n => D.int n | _ => none) = some dd)
    (h : Done X.K FA w F H ps (.z dd) Q) : rIx X.K x (.int j) H Q := by
  have sb := s.1.sub
  cases dx with
  | lst ds =>
    obtain ⟨a, us, rfl, h1, r1⟩ := hx.lst sb
    have e : atI ds j = some dd := e
    unfold atI at e
    cases e1 : ixN ds.length j with
    | none => rw [e1] at e; cases e
    | some k =>
      rw [e1] at e
      obtain ⟨v, e2, r2⟩ := r1.get (show ds[k]? = some dd from e)
      refine .inl ⟨a, us, j, v, rfl, rfl, .of h1, ?_, h.z s r2⟩
      unfold atI
      rw [r1.length, e1]
      exact e2
  | tup ds =>
    obtain ⟨a, us, rfl, h1, r1⟩ := hx.tup sb
    have e : atI ds j = some dd := e
    unfold atI at e
    cases e1 : ixN ds.length j with
    | none => rw [e1] at e; cases e
    | some k =>
      rw [e1] at e
      obtain ⟨v, e2, r2⟩ := r1.get (show ds[k]? = some dd from e)
      refine .inr (.inl ⟨a, us, j, v, rfl, rfl, .of h1, ?_, h.z s r2⟩)
      unfold atI
      rw [r1.length, e1]
      exact e2
  | scr ns =>
    obtain ⟨a, rfl, h1⟩ := hx.scr sb
    have e : (atI ns j).map (fun n => D.int n) = some dd := e
    unfold atI at e
    cases e1 : ixN ns.length j with
    | none => rw [e1] at e; cases e
    | some k =>
      rw [e1] at e
      cases e2 : ns[k]? with
      | none => simp [e2] at e
      | some n =>
        simp [e2] at e
        subst e
        refine .inl ⟨a, _, j, .int n, rfl, rfl, h1, ?_, h.z s (.int _)⟩
        unfold atI
        rw [List.length_map, e1]
        simp [e2]
  | _ => cases e
/-! ### slices -/
theorem cutL_map {α β : Type} (f : α → β) (xs : List α) (lo hi : Option Int) : cutL (xs.map f) lo hi = (cutL xs lo hi).map f := by
  unfold cutL
  rw [List.length_map, List.drop_eq_drop_iff.mpr rfl, ← List.map_drop, ← List.map_take]
theorem cutV_eq (xs : List V) (lo hi : Option Int) : cutV xs lo hi = cutL xs lo hi := rfl
theorem sl_ok {lo hi : Option Int} {Q : VK} {o : O} (s : Hs X.K FA w F H ps) (hx : RepV X.K FA F H x dx) (e : (match dx with | .lst ds => some (O.l ((cutL ds lo hi).map .z)) | .scr ns => some (O.l ((cutL ns lo hi).map fun n => .z (.int n))) | _ => none) = some o)
    (h : Done X.K FA w F H ps o Q) : rSlL X.K x lo hi H Q := by
  have sb := s.1.sub
  cases dx with
  | lst ds =>
    obtain ⟨a, us, rfl, h1, r1⟩ := hx.lst sb
    cases e
    refine ⟨a, us, rfl, .of h1, fun p hp => ?_⟩
    refine Hs.freshList h s ?_ hp
    rw [cutV_eq]
    unfold cutL
    rw [r1.length]
    exact (r1.drop _).take _
  | scr ns =>
    obtain ⟨a, rfl, h1⟩ := hx.scr sb
    cases e
    refine ⟨a, _, rfl, h1, fun p hp => ?_⟩
    have h' : Done X.K FA w F H ps (.l (((cutL ns lo hi).map D.int).map .z)) Q := by rw [List.map_map]; exact h
    refine Hs.freshList h' s ?_ hp
    rw [cutV_eq, cutL_map]
    exact Reps.ints
  | _ => cases e
end
end RF
/-! RFg: readings of expressions. -/
namespace RF
open L2 PySem PySem.Spec PyProof.Rows
section
variable {Nm : Names} {FA : Fns} {CA : Nat → Option Addr} {C : Cfg} {X : Cx} {W : WX} {w : W0} {sc : Scope}
variable {σ : L2.St} {F F1 H H1 : Hp} {ts : List (Option V × O)} {Q Q1 : VK} {pu pu1 fl : Bool}
theorem Fresh.weak {K : PySem.W.Frag} {F' H0 H H' : Hp} {v : V} {o : O} (h : Fresh K FA F' H H' v o) (s : Sub H0 H) : Fresh K FA F' H0 H' v o := by
  obtain ⟨A, r, n⟩ := h
  refine ⟨A, r, fun a m => ?_⟩
  cases e : H0 a with
  | none => rfl
  | some x => rw [← s _ _ e, n a m]
theorem Fresh.mono {K : PySem.W.Frag} {F F' H0 H H' : Hp} {v : V} {o : O} (h : Fresh K FA F H0 H v o) (s : Sub F F') (t : Sub H H') : Fresh K FA F' H0 H' v o := by
  obtain ⟨A, r, n⟩ := h
  exact ⟨A, r.frame s (fun a m => by obtain ⟨xs, e⟩ := r.dom a m; rw [e]; exact t _ _ e) t.tups, n⟩
theorem Fresh.z {K : PySem.W.Frag} {F H0 H : Hp} {v : V} {d : D} (h : Rep K FA F v d) : Fresh K FA F H0 H v (.z d) := ⟨[], .z h, fun _ m => nomatch m⟩
theorem Hs.swapTemp {K : PySem.W.Frag} {p q : Option V × O} {l : List (Option V × O)} (s : Hs K FA w F H (p :: (l ++ q :: ts))) : Hs K FA w F H (q :: p :: (l ++ ts)) :=
  s.perm (((List.perm_middle).cons p).trans (.swap _ _ _))
theorem Hs.toTemp {K : PySem.W.Frag} {p : Option V × O} {l : List (Option V × O)} (s : Hs K FA w F H (p :: (l ++ ts))) : Hs K FA w F H (l ++ p :: ts) := s.perm List.perm_middle.symm
theorem Hs.ofTemp {K : PySem.W.Frag} {p : Option V × O} {l : List (Option V × O)} (s : Hs K FA w F H (l ++ p :: ts)) : Hs K FA w F H (p :: (l ++ ts)) := s.perm List.perm_middle
theorem Post.rebase {r : R O} (h : Post X.K FA CA W w pu σ F H ts Q r) (sF : Sub F F1) (sH : pu = true → Sub H H1) : Post X.K FA CA W w pu σ F1 H1 ts Q r := by
  cases r with
  | ok o env => exact fun v H' F' hl s sf p => h v H' F' hl s (sF.trans sf) fun z => ⟨(sH z).trans (p z).1, (p z).2.weak (sH z)⟩
  | ex c ds => exact fun H' F' od a e sf hr x => h H' F' od a e (sF.trans sf) hr x
  | no => exact h
theorem Post.temp {r : R O} {p : Option V × O} (h : Post X.K FA CA W w pu σ F H ts Q r) : Post X.K FA CA W w pu σ F H (p :: ts) Q r := by
  cases r with
  | ok o env => exact fun v H' F' hl s sf p => h v H' F' hl s.swapTemp.tail sf p
  | ex c ds => exact h
  | no => exact h
theorem Post.weakP {r : R O} (h : Post X.K FA CA W w pu σ F H ts Q r) (e : pu = true → pu1 = true) : Post X.K FA CA W w pu1 σ F H ts Q r := by
  cases r with
  | ok o env => exact fun v H' F' hl s sf p => h v H' F' hl s sf fun z => p (e z)
  | ex c ds => exact h
  | no => exact h
theorem bindV {r : R D} {k : D → Env → R O} (post : Post X.K FA CA W w pu σ F H ts Q (r.bind k))
    (hk : ∀ d env1 v H1 F1, r = .ok d env1 → env1.length = σ.length → Hs X.K FA w F1 H1 (lv σ env1 ++ ts) → RepV X.K FA F1 H1 v d → (fl = false → Rep X.K FA F1 v d) → Sub F F1 → (pu1 = true → Sub H H1) →
      Post X.K FA CA W w pu σ F H ts Q (k d env1) → Q1 v H1) : PostV X.K FA CA W w pu1 fl σ F H ts Q1 r := by
  cases r with
  | ok d env => exact fun v H' F' hl s rv rf sf p => hk d env v H' F' rfl hl s rv rf sf p post
  | ex c ds => exact post
  | no => exact post
theorem bindE {r : R O} {k : O → Env → R O} (post : Post X.K FA CA W w pu σ F H ts Q (r.bind k))
    (hk : ∀ o env1 v H1 F1, r = .ok o env1 → env1.length = σ.length → Hs X.K FA w F1 H1 ((some v, o) :: (lv σ env1 ++ ts)) → Sub F F1 → (pu1 = true → Sub H H1 ∧ Fresh X.K FA F1 H H1 v o) →
      Post X.K FA CA W w pu σ F H ts Q (k o env1) → Q1 v H1) : Post X.K FA CA W w pu1 σ F H ts Q1 r := by
  cases r with
  | ok d env => exact fun v H' F' hl s sf p => hk d env v H' F' rfl hl s sf p post
  | ex c ds => exact post
  | no => exact post
/-- a value that is made at once -/
theorem Post.done {o : O} {env : Env} (post : Post X.K FA CA W w pu σ F H ts Q (.ok o env)) (hl : env.length = σ.length) : Done X.K FA w F H (lv σ env ++ ts) o Q :=
  fun v H' F' s sF sH fr => post v H' F' hl s sF fun _ => ⟨sH, fr⟩
theorem Post.z {d : D} {env : Env} {v : V} (post : Post X.K FA CA W w pu σ F H ts Q (.ok (.z d) env)) (hl : env.length = σ.length) (s : Hs X.K FA w F H (lv σ env ++ ts)) (r : Rep X.K FA F v d) : Q v H :=
  (post.done hl).z s r
/-! ### names -/
theorem visB_ok (r : ScR X sc) {i : Nat} {x : Str} (h : visB X.N sc i x = true) : X.N[i]? = some x ∧ Vis X.env.scope x ∧ (x == ("__debug__" : Str)) = false ∧ (x == ("__classdict__" : Str)) = false := by
  unfold visB at h
  simp only [Bool.and_eq_true, Bool.or_eq_true, decide_eq_true_eq, Bool.not_eq_true'] at h
  obtain ⟨⟨⟨h1, h2⟩, h3⟩, h4⟩ := h
  refine ⟨h1, ?_, h3, h4⟩
  rcases h2 with (h2 | h2) | h2
  · exact .inl (r.loc x h2)
  · exact .inr (.inl (r.cell x h2).1)
  · rcases r.free x h2 with z | z
    · exact .inr (.inl z)
    · exact .inr (.inr z)
theorem glB_ok (r : ScR X sc) {x : Str} (h : glB sc x = true) : Gl X x ∧ (x == ("__debug__" : Str)) = false := by
  unfold glB at h
  simp only [Bool.and_eq_true, decide_eq_true_eq, Bool.not_eq_true'] at h
  exact ⟨r.glob x h.1, h.2⟩
theorem pe_slot (r : ScR X sc) {i : Nat} {x : Str} {pos : Pos} (h : visB X.N sc i x = true) : PE X (.Name x pos) (tVar i) := by
  obtain ⟨h1, h2, h3, h4⟩ := visB_ok r h
  exact pe_var h1 h2 h3 h4
theorem c_v (r : ScR X sc) {i : Nat} {x : Str} {pos : Pos} (h : visB X.N sc i x = true) : PE X (.Name x pos) (tE X.K FA CA W w C (.v i)) := by
  refine PE.imp (pe_slot r h) fun σ H Q ⟨F, ts, env, hl, s, post⟩ => ?_
  unfold evalE at post
  cases e : getE env i with
  | none => rw [e] at post; exact post.elim
  | some o =>
    rw [e] at post
    cases o with
    | z d =>
      obtain ⟨v, e1, rp⟩ := s.slotRep hl e
      exact ⟨v, e1, post.z hl s rp⟩
    | l os =>
      obtain ⟨v, e1, s1⟩ := s.take hl e
      obtain ⟨F', sF, s2⟩ := s1.freeze
      have rp := s2.rep
      have s3 := s2.back hl e1
      exact ⟨v, e1, post v H F' (by rw [List.length_set]; exact hl) (s3.add rp) sF fun _ => ⟨Sub.refl _, Fresh.z rp⟩⟩
    | t os =>
      obtain ⟨v, e1, s1⟩ := s.take hl e
      obtain ⟨F', sF, s2⟩ := s1.freeze
      have rp := s2.rep
      have s3 := s2.back hl e1
      exact ⟨v, e1, post v H F' (by rw [List.length_set]; exact hl) (s3.add rp) sF fun _ => ⟨Sub.refl _, Fresh.z rp⟩⟩
/-- a value that is looked at -/
theorem sV_gen {e : Expr} {m : RF.X} (h : PE X e (tE X.K FA CA W w C m)) (hv : ∀ env, viewE fl m (evalE C m env) env = (evalE C m env).bind fun o env1 => .ok o.toD env1) : PE X e (tV X.K FA CA W w C fl m) := by
  refine PE.imp h fun σ H Q ⟨F, ts, env, hl, s, post⟩ => ⟨F, ts, env, hl, s, ?_⟩
  rw [hv] at post
  cases e1 : evalE C m env with
  | ok o env1 =>
    rw [e1] at post
    intro v H' F' hl' s' sf p
    obtain ⟨F2, sF2, s2⟩ := s'.freeze
    exact post v H' F2 hl' s2.tail (.rep s2.rep) (fun _ => s2.rep) (sf.trans sF2) fun z => (p z).1
  | ex c ds => rw [e1] at post; exact post
  | no => rw [e1] at post; exact post
theorem c_vV (r : ScR X sc) {i : Nat} {x : Str} {pos : Pos} (h : visB X.N sc i x = true) : PE X (.Name x pos) (tV X.K FA CA W w C fl (.v i)) := by
  refine PE.imp (pe_slot r h) fun σ H Q ⟨F, ts, env, hl, s, post⟩ => ?_
  have own : ∀ o, getE env i = some o → (∀ d, o ≠ .z d) → viewE fl (.v i) (evalE C (.v i) env) env = if fl && o.flat then R.ok o.toD env else R.ok o.toD (env.set i (some (frz o))) := fun o e nz => by
    unfold viewE evalE
    simp only [e]
    cases o with
    | z d => exact absurd rfl (nz d)
    | l os => simp only [frz, O.toD, R.bind_ok]
    | t os => simp only [frz, O.toD, R.bind_ok]
  have go : ∀ o, getE env i = some o → (∀ d, o ≠ .z d) → tVar i σ H Q := fun o e nz => by
    rw [own o e nz] at post
    split at post
    · rename_i z
      have z' := Bool.and_eq_true_iff.mp z
      obtain ⟨v, e1, s1⟩ := s.take hl e
      obtain ⟨A, ro⟩ := s1.head
      exact ⟨v, e1, post v H F hl s (ro.viewV s.1.tups z'.2) (fun z2 => by rw [z2] at z'; cases z'.1) (Sub.refl _) fun _ => Sub.refl _⟩
    · obtain ⟨v, e1, s1⟩ := s.take hl e
      obtain ⟨F', sF, s2⟩ := s1.freeze
      have rp := s2.rep
      exact ⟨v, e1, post v H F' (by rw [List.length_set]; exact hl) (s2.back hl e1) (.rep rp) (fun _ => rp) sF fun _ => Sub.refl _⟩
  cases e : getE env i with
  | none => unfold viewE at post; simp only [e] at post; exact post.elim
  | some o =>
    cases o with
    | z d =>
      unfold viewE at post
      simp only [e] at post
      obtain ⟨v, e1, rp⟩ := s.slotRep hl e
      exact ⟨v, e1, post v H F hl s (.rep rp) (fun _ => rp) (Sub.refl _) fun _ => Sub.refl _⟩
    | l os => exact go _ e fun d z => by cases z
    | t os => exact go _ e fun d z => by cases z
theorem sV {e : Expr} {m : RF.X} (r : ScR X sc) (hi : isE Nm X.N m sc e = true) (h : PE X e (tE X.K FA CA W w C m)) : PE X e (tV X.K FA CA W w C fl m) := by
  cases m with
  | v i =>
    cases e with
    | Name x pos => exact c_vV r (by simpa [isE] using hi)
    | _ => simp [isE] at hi
  | _ => exact sV_gen h fun env => rfl
/-! ### constants -/
theorem c_const {e : Expr} {m : RF.X} {v : V} {d : D} (h : PE X e (tC v)) (he : ∀ env, evalE C m env = .ok (.z d) env) (rp : ∀ F, Rep X.K FA F v d) : PE X e (tE X.K FA CA W w C m) := by
  refine PE.imp h fun σ H Q ⟨F, ts, env, hl, s, post⟩ => ?_
  rw [he] at post
  exact post.z hl s (rp F)
/-! ### operators -/
theorem c_bin {a b : RF.X} {o : Bop} {op : Operator} {x y : Expr} {pos : Pos} (ho : bopIs o op = true) (ha : PE X x (tV X.K FA CA W w C (pureX b) a)) (hb : PE X y (tV X.K FA CA W w C true b)) : PE X (.BinOp x op y pos) (tE X.K FA CA W w C (.bin o a b)) := by
  refine PE.imp (pe_op (op_bop ho) ha hb) fun σ H Q ⟨F, ts, env, hl, s, post⟩ => ⟨F, ts, env, hl, s, ?_⟩
  unfold evalE at post
  refine bindV post fun dx env1 vx H1 F1 _ hl1 s1 rx rf sF1 p1 post => ⟨F1, ts, env1, hl1, s1, ?_⟩
  have post := post.rebase sF1 fun z => p1 (by
    have z' : (pureX a && pureX b) = true := z
    exact (Bool.and_eq_true_iff.mp z').1)
  refine bindV post fun dy env2 vy H2 F2 _ hl2 s2 ry _ sF2 p2 post => ?_
  have post := post.rebase sF2 fun z => p2 (by
    have z' : (pureX a && pureX b) = true := z
    exact (Bool.and_eq_true_iff.mp z').2)
  have rx2 : RepV X.K FA F2 H2 vx dx := by
    cases e : pureX b with
    | true => exact rx.mono sF2 (p2 e)
    | false => exact .rep ((rf e).mono sF2)
  cases e : binop o dx dy with
  | none => rw [e] at post; exact post.elim
  | some q =>
    rw [e] at post
    exact bop_ok s2 rx2 ry e (post.done hl2)
theorem c_neg {a : RF.X} {x : Expr} {pos : Pos} (ha : PE X x (tE X.K FA CA W w C a)) : PE X (.UnaryOp .USub x pos) (tE X.K FA CA W w C (.neg a)) := by
  refine PE.imp (pe_un un_neg ha) fun σ H Q ⟨F, ts, env, hl, s, post⟩ => ⟨F, ts, env, hl, s, ?_⟩
  unfold evalE at post
  refine bindE post fun o env1 v H1 F1 _ hl1 s1 sF1 p1 post => ?_
  have post := post.rebase sF1 fun z => (p1 z).1
  split at post
  · obtain rfl := RepV.int (.rep s1.rep : RepV X.K FA F1 H1 v _)
    exact ⟨_, rfl, post.z hl1 s1.tail (.int _)⟩
  · exact post.elim
theorem i_not {a : RF.X} : ∀ σ H Q, tE X.K FA CA W w C (.not a) σ H Q → tE X.K FA CA W w C a σ H fun x H1 => ∃ c, x = .bl c ∧ Q (.bl (!c)) H1 := by
  refine fun σ H Q ⟨F, ts, env, hl, s, post⟩ => ⟨F, ts, env, hl, s, ?_⟩
  unfold evalE at post
  refine bindE post fun o env1 v H1 F1 _ hl1 s1 sF1 p1 post => ?_
  have post := post.rebase sF1 fun z => (p1 z).1
  split at post
  · obtain rfl := RepV.bl (.rep s1.rep : RepV X.K FA F1 H1 v _)
    exact ⟨_, rfl, post.z hl1 s1.tail (.bl _)⟩
  · exact post.elim
theorem c_not {a : RF.X} {x : Expr} {pos : Pos} (ha : PE X x (tE X.K FA CA W w C a)) (hb : PT X x (tTest (tE X.K FA CA W w C a))) :
    PE X (.UnaryOp .Not x pos) (tE X.K FA CA W w C (.not a)) ∧ PT X (.UnaryOp .Not x pos) (tTest (tE X.K FA CA W w C (.not a))) := by
  refine ⟨PE.imp (pe_not ha) i_not, ⟨fun pins s σ H Q I h => ?_⟩⟩
  have h' := i_not _ _ _ h
  refine isTrue_not (thn (hb.run pins s σ H (fun c H1 => Q (!c) H1) I ?_) fun _ _ z => z)
  obtain ⟨F, ts, env, hl, s, post⟩ := h'
  refine ⟨F, ts, env, hl, s, ?_⟩
  cases e : evalE C a env with
  | ok o env1 =>
    rw [e] at post
    intro v H1 F1 hl1 s1 sF1 p1
    obtain ⟨c, rfl, k, e1, q⟩ := post v H1 F1 hl1 s1 sF1 p1
    cases e1
    exact ⟨c, rfl, q⟩
  | ex c ds => rw [e] at post; exact post
  | no => rw [e] at post; exact post
theorem i_cmp {a b : RF.X} {o : Cop} : ∀ σ H Q, tE X.K FA CA W w C (.cmp o a b) σ H Q → tOp (rCop X.K o) (tV X.K FA CA W w C (pureX b) a) (tV X.K FA CA W w C true b) σ H Q := by
  refine fun σ H Q ⟨F, ts, env, hl, s, post⟩ => ⟨F, ts, env, hl, s, ?_⟩
  unfold evalE at post
  refine bindV post fun dx env1 vx H1 F1 _ hl1 s1 rx rf sF1 p1 post => ⟨F1, ts, env1, hl1, s1, ?_⟩
  have post := post.rebase sF1 fun z => p1 (by
    have z' : (pureX a && pureX b) = true := z
    exact (Bool.and_eq_true_iff.mp z').1)
  refine bindV post fun dy env2 vy H2 F2 _ hl2 s2 ry _ sF2 p2 post => ?_
  have post := post.rebase sF2 fun z => p2 (by
    have z' : (pureX a && pureX b) = true := z
    exact (Bool.and_eq_true_iff.mp z').2)
  have rx2 : RepV X.K FA F2 H2 vx dx := by
    cases e : pureX b with
    | true => exact rx.mono sF2 (p2 e)
    | false => exact .rep ((rf e).mono sF2)
  cases e : cmpop o dx dy with
  | none => rw [e] at post; exact post.elim
  | some q =>
    rw [e] at post
    exact cop_ok s2 rx2 ry e (post.z hl2 s2 (.bl _))
theorem c_cmp {a b : RF.X} {o : Cop} {op : CmpOp} {x y : Expr} {pos : Pos} (c : Cok Nm FA CA C X W) (ho : copIs o op = true) (hm : noMark op y = true) (ha : PE X x (tV X.K FA CA W w C (pureX b) a)) (hb : PE X y (tV X.K FA CA W w C true b)) :
    PE X (.Compare x [op] [y] pos) (tE X.K FA CA W w C (.cmp o a b)) ∧ PT X (.Compare x [op] [y] pos) (tTest (tE X.K FA CA W w C (.cmp o a b))) :=
  ⟨PE.imp (pe_cmpR (op_cop c.un ho) ha hb (by simpa [noMark] using hm)) i_cmp, PT.imp (pt_cmpR (op_cop c.un ho) ha hb (by simpa [noMark] using hm)) fun _ _ _ h => i_cmp _ _ _ h⟩
theorem i_cmp2 {a b d : RF.X} {o p : Cop} : ∀ σ H Q, tE X.K FA CA W w C (.cmp2 o p a b d) σ H Q → tChain (rCop X.K o) (rCop X.K p) (tV X.K FA CA W w C (pureX b) a) (tV X.K FA CA W w C (pureX d) b) (tV X.K FA CA W w C true d) σ H Q := by
  refine fun σ H Q ⟨F, ts, env, hl, s, post⟩ => ⟨F, ts, env, hl, s, ?_⟩
  unfold evalE at post
  have pp : ∀ {q : Prop}, (pureX a = true → pureX b = true → pureX d = true → q) → pureX (.cmp2 o p a b d) = true → q := fun h z => by
    have z' : (pureX a && pureX b && pureX d) = true := z
    have z1 := Bool.and_eq_true_iff.mp z'
    have z2 := Bool.and_eq_true_iff.mp z1.1
    exact h z2.1 z2.2 z1.2
  refine bindV post fun dx env1 vx H1 F1 _ hl1 s1 rx rf sF1 p1 post => ⟨F1, ts, env1, hl1, s1, ?_⟩
  have post := post.rebase sF1 (pp fun z _ _ => p1 z)
  refine bindV post fun dy env2 vy H2 F2 _ hl2 s2 ry ryf sF2 p2 post => ?_
  have post := post.rebase sF2 (pp fun _ z _ => p2 z)
  have rx2 : RepV X.K FA F2 H2 vx dx := by
    cases e : pureX b with
    | true => exact rx.mono sF2 (p2 e)
    | false => exact .rep ((rf e).mono sF2)
  cases e : cmpop o dx dy with
  | none => rw [e] at post; exact post.elim
  | some q =>
    rw [e] at post
    refine cop_ok s2 rx2 ry e ⟨q, rfl, ?_⟩
    cases q with
    | false =>
      rw [if_neg Bool.false_ne_true]
      exact post.z hl2 s2 (.bl _)
    | true =>
      rw [if_pos rfl]
      refine ⟨F2, ts, env2, hl2, s2, ?_⟩
      refine bindV post fun dw env3 vw H3 F3 _ hl3 s3 rw3 _ sF3 p3 post => ?_
      have post := post.rebase sF3 (pp fun _ _ z => p3 z)
      have ry3 : RepV X.K FA F3 H3 vy dy := by
        cases e : pureX d with
        | true => exact ry.mono sF3 (p3 e)
        | false => exact .rep ((ryf e).mono sF3)
      cases e : cmpop p dy dw with
      | none => rw [e] at post; exact post.elim
      | some q =>
        rw [e] at post
        exact cop_ok s3 ry3 rw3 e (post.z hl3 s3 (.bl _))
theorem c_cmp2 {a b d : RF.X} {o p : Cop} {op op' : CmpOp} {x y z : Expr} {pos : Pos} (c : Cok Nm FA CA C X W) (ho : copIs o op = true) (ho' : copIs p op' = true) (hm : noMark op' z = true)
    (ha : PE X x (tV X.K FA CA W w C (pureX b) a)) (hb : PE X y (tV X.K FA CA W w C (pureX d) b)) (hd : PE X z (tV X.K FA CA W w C true d)) :
    PE X (.Compare x [op, op'] [y, z] pos) (tE X.K FA CA W w C (.cmp2 o p a b d)) ∧ PT X (.Compare x [op, op'] [y, z] pos) (tTest (tE X.K FA CA W w C (.cmp2 o p a b d))) := by
  have hm' : lastMarks [op, op'] [y, z] = false := by
    show behindInMarks op' z = false
    simpa [noMark] using hm
  exact ⟨PE.imp (pe_chain (op_cop c.un ho) (op_cop c.un ho') ha hb hd hm') i_cmp2, PT.imp (pt_chain (op_cop c.un ho) (op_cop c.un ho') ha hb hd hm') fun _ _ _ h => i_cmp2 _ _ _ h⟩
/-! ### tests -/
theorem i_ite {a b d : RF.X} : ∀ σ H Q, tE X.K FA CA W w C (.ite a b d) σ H Q → tIf (tTest (tE X.K FA CA W w C a)) (tE X.K FA CA W w C b) (tE X.K FA CA W w C d) σ H Q := by
  refine fun σ H Q ⟨F, ts, env, hl, s, post⟩ => ⟨F, ts, env, hl, s, ?_⟩
  unfold evalE at post
  have pp : ∀ {q : Prop}, (pureX a = true → pureX b = true → pureX d = true → q) → pureX (.ite a b d) = true → q := fun h z => by
    have z' : (pureX a && pureX b && pureX d) = true := z
    have z1 := Bool.and_eq_true_iff.mp z'
    have z2 := Bool.and_eq_true_iff.mp z1.1
    exact h z2.1 z2.2 z1.2
  refine bindE post fun o env1 v H1 F1 _ hl1 s1 sF1 p1 post => ?_
  have post := post.rebase sF1 (pp fun z _ _ => (p1 z).1)
  split at post
  · obtain rfl := RepV.bl (.rep s1.rep : RepV X.K FA F1 H1 v _)
    exact ⟨_, rfl, iteT ⟨F1, ts, env1, hl1, s1.tail, post.weakP (pp fun _ z _ => z)⟩⟩
  · obtain rfl := RepV.bl (.rep s1.rep : RepV X.K FA F1 H1 v _)
    exact ⟨_, rfl, iteF ⟨F1, ts, env1, hl1, s1.tail, post.weakP (pp fun _ _ z => z)⟩⟩
  · exact post.elim
theorem c_ite {a b d : RF.X} {x y z : Expr} {pos : Pos} (hc : PT X x (tTest (tE X.K FA CA W w C a))) (ha : PE X y (tE X.K FA CA W w C b)) (hb : PE X z (tE X.K FA CA W w C d)) : PE X (.IfExp x y z pos) (tE X.K FA CA W w C (.ite a b d)) :=
  PE.imp (pe_ifExp hc ha hb) i_ite
theorem isTrue_ite {M : Model} {A : Around} {E : Value → Shared → Prop} {s : Shared} {x y z : Expr} {pos : Pos} {env : PySem.Env} {whole : Sem Value} {Q : Bool → Shared → Prop}
    (h : wpAny M A (isTrue x env (eval x env)) (fun b s1 => if b = true then wpAny M A (isTrue y env (eval y env)) Q E s1 else wpAny M A (isTrue z env (eval z env)) Q E s1) E s) : wpAny M A (isTrue (.IfExp x y z pos) env whole) Q E s := by
  show wpAny M A (do if ← isTrue x env (eval x env) then isTrue y env (eval y env) else isTrue z env (eval z env)) Q E s
  refine wpAny_bind (wpAny_mono h (fun b s1 h1 => ?_) fun _ _ x => x)
  cases b with
  | true => exact h1
  | false => exact h1
theorem ct_ite {a b d : RF.X} {x y z : Expr} {pos : Pos} (hc : PT X x (tTest (tE X.K FA CA W w C a))) (ha : PT X y (tTest (tE X.K FA CA W w C b))) (hb : PT X z (tTest (tE X.K FA CA W w C d))) : PT X (.IfExp x y z pos) (tTest (tE X.K FA CA W w C (.ite a b d))) := by
  refine ⟨fun pins s σ H Q I h => ?_⟩
  have h' := i_ite _ _ _ h
  refine isTrue_ite (thn (hc.run pins s σ H _ I h') fun k s1 ⟨H1, I1, q1⟩ => ?_)
  cases k with
  | true => exact ha.run pins s1 σ H1 Q I1 q1
  | false => exact hb.run pins s1 σ H1 Q I1 q1
end
end RF
/-! RFh: lists of expressions; and, or; items, slices, built-ins. -/
namespace RF
open L2 PySem PySem.Spec PyProof.Rows
theorem notStar {Nm : Names} {N : List Str} {m : X} {sc : Scope} {e : Expr} {p : Pos} : isE Nm N m sc (.Starred e p) = false := by cases m <;> rfl
theorem notSlice {Nm : Names} {N : List Str} {m : X} {sc : Scope} {a b c : Option Expr} {p : Pos} : isE Nm N m sc (.Slice a b c p) = false := by cases m <;> rfl
theorem star_cons {Nm : Names} {N : List Str} {m : X} {sc : Scope} {e : Expr} {es : List Expr} {env : PySem.Env} (h : isE Nm N m sc e = true) : starEach (e :: es) env = (false, eval e env) :: starEach es env := by
  cases e <;> first | rfl | (rw [notStar] at h; cases h)
theorem star_any {Nm : Names} {N : List Str} {sc : Scope} {env : PySem.Env} {pos : Pos} : ∀ {es : Xs} {us : List Expr}, isEs Nm N es sc us = true → (backTo pos (starEach us env)).any (·.1) = false
  | .nil, [], _ => rfl
  | .nil, _ :: _, h => by simp [isEs] at h
  | .cons _ _, [], h => by simp [isEs] at h
  | .cons e es, u :: us, h => by
    have h' : isE Nm N e sc u = true ∧ isEs Nm N es sc us = true := by simpa [isEs] using h
    rw [star_cons h'.1]
    show (false || (backTo pos (starEach us env)).any (·.1)) = false
    rw [star_any h'.2]; rfl
theorem plainIx {Nm : Names} {N : List Str} {m : X} {sc : Scope} {e : Expr} (h : isE Nm N m sc e = true) : PlainIx e := fun o i => by
  cases e <;> first | rfl | (rw [notSlice] at h; cases h)
theorem evalEs_len {C : Cfg} : ∀ {es : Xs} {env env1 : Env} {os : List O}, evalEs C es env = .ok os env1 → os.length = xsLen es
  | .nil, _, _, _, h => by
    unfold evalEs at h; cases h; rfl
  | .cons e es, env, env1, os, h => by
    unfold evalEs at h
    cases e1 : evalE C e env with
    | ok o env2 =>
      rw [e1, R.bind_ok] at h
      cases e2 : evalEs C es env2 with
      | ok os2 env3 => rw [e2, R.bind_ok] at h; cases h; simp [xsLen, evalEs_len e2]
      | ex c ds => rw [e2] at h; cases h
      | no => rw [e2] at h; cases h
    | ex c ds => rw [e1] at h; cases h
    | no => rw [e1] at h; cases h
section
variable {Nm : Names} {FA : Fns} {CA : Nat → Option Addr} {C : Cfg} {X : Cx} {W : WX} {w : W0} {sc : Scope}
variable {σ : L2.St} {F F1 H H1 : Hp} {ts : List (Option V × O)} {Q Q1 : VK} {pu pu1 fl : Bool}
/-- an exception on the way -/
def exW (K : PySem.W.Frag) (FA : Fns) (CA : Nat → Option Addr) (W : WX) (w : W0) (σ : L2.St) (F : Hp) (c : Nat) (ds : List D) : Prop :=
  ∀ H' F' od a, CA c = some a → Sub F F' → HR w F' H' → ExcAt K FA F' H' ds od → W (.ref a) od σ H'
def PG {α : Type} (K : PySem.W.Frag) (FA : Fns) (CA : Nat → Option Addr) (W : WX) (w : W0) (σ : L2.St) (F : Hp) (P : α → Env → Prop) : R α → Prop
  | .ok a env => P a env
  | .ex c ds => exW K FA CA W w σ F c ds
  | .no => False
def okE (K : PySem.W.Frag) (FA : Fns) (w : W0) (pu : Bool) (σ : L2.St) (F H : Hp) (ts : List (Option V × O)) (Q : VK) : O → Env → Prop := fun o env' =>
  ∀ v H' F', env'.length = σ.length → Hs K FA w F' H' ((some v, o) :: (lv σ env' ++ ts)) → Sub F F' → (pu = true → Sub H H' ∧ Fresh K FA F' H H' v o) → Q v H'
theorem Post.pg {r : R O} : Post X.K FA CA W w pu σ F H ts Q r = PG X.K FA CA W w σ F (okE X.K FA w pu σ F H ts Q) r := by cases r <;> rfl
theorem PG.bind {α β : Type} {r : R α} {k : α → Env → R β} {P : β → Env → Prop} : PG X.K FA CA W w σ F P (r.bind k) = PG X.K FA CA W w σ F (fun a env => PG X.K FA CA W w σ F P (k a env)) r := by cases r <;> rfl
theorem PG.imp {α : Type} {r : R α} {P P' : α → Env → Prop} (h : PG X.K FA CA W w σ F P r) (i : ∀ a env, r = .ok a env → P a env → P' a env) : PG X.K FA CA W w σ F P' r := by
  cases r with
  | ok a env => exact i a env rfl h
  | ex c ds => exact h
  | no => exact h
theorem PG.rebase {α : Type} {r : R α} {P P' : α → Env → Prop} (h : PG X.K FA CA W w σ F P r) (sF : Sub F F1) (i : ∀ a env, P a env → P' a env) : PG X.K FA CA W w σ F1 P' r := by
  cases r with
  | ok a env => exact i a env h
  | ex c ds => exact fun H' F' od a e sf hr x => h H' F' od a e (sF.trans sf) hr x
  | no => exact h
theorem bindG {α : Type} {r : R O} {k : O → Env → R α} {P : α → Env → Prop} (post : PG X.K FA CA W w σ F P (r.bind k))
    (hk : ∀ o env1 v H1 F1, r = .ok o env1 → env1.length = σ.length → Hs X.K FA w F1 H1 ((some v, o) :: (lv σ env1 ++ ts)) → Sub F F1 → (pu1 = true → Sub H H1 ∧ Fresh X.K FA F1 H H1 v o) →
      PG X.K FA CA W w σ F P (k o env1) → Q1 v H1) : Post X.K FA CA W w pu1 σ F H ts Q1 r := by
  cases r with
  | ok d env => exact fun v H' F' hl s sf p => hk d env v H' F' rfl hl s sf p post
  | ex c ds => exact post
  | no => exact post
theorem bindVG {α : Type} {r : R D} {k : D → Env → R α} {P : α → Env → Prop} (post : PG X.K FA CA W w σ F P (r.bind k))
    (hk : ∀ d env1 v H1 F1, r = .ok d env1 → env1.length = σ.length → Hs X.K FA w F1 H1 (lv σ env1 ++ ts) → RepV X.K FA F1 H1 v d → (fl = false → Rep X.K FA F1 v d) → Sub F F1 → (pu1 = true → Sub H H1) →
      PG X.K FA CA W w σ F P (k d env1) → Q1 v H1) : PostV X.K FA CA W w pu1 fl σ F H ts Q1 r := by
  cases r with
  | ok d env => exact fun v H' F' hl s rv rf sf p => hk d env v H' F' rfl hl s rv rf sf p post
  | ex c ds => exact post
  | no => exact post
/-! ### lists of expressions -/
def FreshL (K : PySem.W.Frag) (FA : Fns) (F' H H' : Hp) (vs : List V) (os : List O) : Prop := ∃ A, RepOs K FA F' H' vs os A ∧ ∀ a ∈ A, H a = none
def okEs (K : PySem.W.Frag) (FA : Fns) (w : W0) (pu : Bool) (σ : L2.St) (F H : Hp) (ts : List (Option V × O)) (Q : List V → Hp → Prop) : List O → Env → Prop := fun os env' =>
  ∀ vs H' F', env'.length = σ.length → vs.length = os.length → Hs K FA w F' H' ((vs.map some).zip os ++ (lv σ env' ++ ts)) → Sub F F' → (pu = true → Sub H H' ∧ FreshL K FA F' H H' vs os) → Q vs H'
def tEs (K : PySem.W.Frag) (FA : Fns) (CA : Nat → Option Addr) (W : WX) (w : W0) (C : Cfg) (es : Xs) : TA := fun σ H Q => ∃ F ts env, env.length = σ.length ∧ Hs K FA w F H (lv σ env ++ ts) ∧ PG K FA CA W w σ F (okEs K FA w (pureXs es) σ F H ts Q) (evalEs C es env)
theorem c_nil : PA X [] (tEs X.K FA CA W w C .nil) := PA.imp pa_nil fun σ H Q ⟨F, ts, env, hl, s, post⟩ => post [] H F hl rfl s (Sub.refl _) fun _ => ⟨Sub.refl _, [], .nil, fun _ m => nomatch m⟩
theorem c_cons {e : RF.X} {es : Xs} {u : Expr} {us : List Expr} (hi : isE Nm X.N e sc u = true) (he : PE X u (tE X.K FA CA W w C e)) (hs : PA X us (tEs X.K FA CA W w C es)) : PA X (u :: us) (tEs X.K FA CA W w C (.cons e es)) := by
  refine PA.imp (pa_cons he hs (star_cons hi)) fun σ H Q ⟨F, ts, env, hl, s, post⟩ => ⟨F, ts, env, hl, s, ?_⟩
  unfold evalEs at post
  refine bindG post fun o env1 v H1 F1 _ hl1 s1 sF1 p1 post => ⟨F1, (some v, o) :: ts, env1, hl1, s1.toTemp, ?_⟩
  rw [PG.bind] at post
  refine post.rebase sF1 fun os env2 q vs H2 F2 hl2 hv s2 sF2 p2 => ?_
  have s3 : Hs X.K FA w F2 H2 ((some v, o) :: ((vs.map some).zip os ++ (lv σ env2 ++ ts))) := by
    rw [← List.append_assoc] at s2
    have := s2.ofTemp
    rwa [List.append_assoc] at this
  refine q (v :: vs) H2 F2 hl2 (by simp [hv]) s3 (sF1.trans sF2) fun z => ?_
  have z' := Bool.and_eq_true_iff.mp (show (pureX e && pureXs es) = true from z)
  obtain ⟨a1, a2⟩ := p1 z'.1
  obtain ⟨b1, B, b2, b3⟩ := p2 z'.2
  obtain ⟨A, a3, a4⟩ := a2.mono sF2 b1
  refine ⟨a1.trans b1, A ++ B, .cons a3 b2, fun a m => ?_⟩
  rcases List.mem_append.mp m with m | m
  · exact a4 a m
  · cases e : H a with
    | none => rfl
    | some x => rw [← a1 _ _ e, b3 a m]
theorem c_tup {es : Xs} {us : List Expr} {k : Nat} {pos : Pos} (hs : PA X us (tEs X.K FA CA W w C es)) (hz : xsLen es = us.length) (hz2 : us.length ≤ 1000) : PE X (.Tuple us k pos) (tE X.K FA CA W w C (.tup es)) := by
  refine PE.imp (pe_tup hs) fun σ H Q ⟨F, ts, env, hl, s, post⟩ => ⟨F, ts, env, hl, s, ?_⟩
  unfold evalE at post
  rw [Post.pg, PG.bind] at post
  refine post.imp fun os env1 he q vs H1 F1 hl1 hv s1 sF1 p1 => ⟨?_, fun p hp => ?_⟩
  · rw [hv]
    have : os.length = xsLen es := evalEs_len he
    have e24 : (sizeLine : Nat) = 2 ^ 24 := rfl
    omega
  · have s2 := s1.mkTup hv hp
    have fp : F1 p = none := by
      cases z : F1 p with
      | none => rfl
      | some ob => rw [s1.1.sub _ _ z] at hp; cases hp
    refine q _ _ _ hl1 s2 (sF1.trans (sub_upd fp)) fun z => ?_
    obtain ⟨a1, A, a2, a3⟩ := p1 z
    refine ⟨a1.trans (sub_upd hp), ?_⟩
    have a4 := a2.frame (F' := upd F1 p (.tup vs)) (H' := upd H1 p (.tup vs)) (sub_upd fp) (fun b m => by
      obtain ⟨xs, e⟩ := a2.dom b m
      exact upd_ne (ne_of_none e hp)) (sub_upd hp).tups
    by_cases zz : os.all O.isZ = true
    · rw [if_pos zz]
      obtain ⟨_, r3⟩ := a4.allZ zz
      exact Fresh.z (.tup upd_same r3)
    · rw [if_neg zz]
      exact ⟨A, .t upd_same a4, a3⟩
end
end RF
/-! RFi: displays; and, or; items, slices, built-ins. -/
namespace RF
open L2 PySem PySem.Spec PyProof.Rows
section
variable {Nm : Names} {FA : Fns} {CA : Nat → Option Addr} {C : Cfg} {X : Cx} {W : WX} {w : W0} {sc : Scope}
variable {σ : L2.St} {F F1 H H1 : Hp} {ts : List (Option V × O)} {Q Q1 : VK} {pu pu1 fl : Bool}
theorem Hs.nonew {K : PySem.W.Frag} {ps : List (Option V × O)} (s : Hs K FA w F H ps) {p : Addr} (hp : H p = none) : F p = none := by
  cases z : F p with
  | none => rfl
  | some ob => rw [s.1.sub _ _ z] at hp; cases hp
theorem c_lst {es : Xs} {us : List Expr} {pos : Pos} (hs : PA X us (tEs X.K FA CA W w C es)) (hz : xsLen es = us.length) (hz2 : us.length ≤ 1000) : PE X (.List us pos) (tE X.K FA CA W w C (.lst es)) := by
  refine PE.imp (pe_lst hs) fun σ H Q ⟨F, ts, env, hl, s, post⟩ => ⟨F, ts, env, hl, s, ?_⟩
  unfold evalE at post
  rw [Post.pg, PG.bind] at post
  refine post.imp fun os env1 he q vs H1 F1 hl1 hv s1 sF1 p1 => ⟨?_, fun p hp => ?_⟩
  · rw [hv]
    have : os.length = xsLen es := evalEs_len he
    have e24 : (sizeLine : Nat) = 2 ^ 24 := rfl
    omega
  · have s2 := s1.mkList hv hp
    refine q _ _ _ hl1 s2 sF1 fun z => ?_
    obtain ⟨a1, A, a2, a3⟩ := p1 z
    refine ⟨a1.trans (sub_upd hp), p :: A, .l upd_same (a2.frame (Sub.refl _) (fun b m => ?_) (sub_upd hp).tups), fun a m => ?_⟩
    · obtain ⟨xs, e⟩ := a2.dom b m
      exact upd_ne (ne_of_none e hp)
    · rcases List.mem_cons.mp m with e | m
      · rw [e]
        cases z : H p with
        | none => rfl
        | some x => rw [a1 _ _ z] at hp; cases hp
      · exact a3 a m
/-! ### and, or -/
def tAn (K : PySem.W.Frag) (FA : Fns) (CA : Nat → Option Addr) (W : WX) (w : W0) (C : Cfg) (es : Xs) : TE := fun σ H Q => ∃ F ts env, env.length = σ.length ∧ Hs K FA w F H (lv σ env ++ ts) ∧ Post K FA CA W w (pureXs es) σ F H ts Q (evalAnd C es env)
def tOr (K : PySem.W.Frag) (FA : Fns) (CA : Nat → Option Addr) (W : WX) (w : W0) (C : Cfg) (es : Xs) : TE := fun σ H Q => ∃ F ts env, env.length = σ.length ∧ Hs K FA w F H (lv σ env ++ ts) ∧ Post K FA CA W w (pureXs es) σ F H ts Q (evalOr C es env)
theorem PW.imp {e : Expr} {t t' : TT} (h : PW X e t) (i : ∀ σ H Q, t' σ H Q → t σ H Q) : PW X e t' := ⟨fun wh pins s σ H Q I q => h.run wh pins s σ H Q I (i _ _ _ q)⟩
theorem pxs1 {e : RF.X} : pureXs (.cons e .nil) = true → pureX e = true := fun z => (Bool.and_eq_true_iff.mp (show (pureX e && true) = true from z)).1
theorem i_and1 {e : RF.X} : ∀ σ H Q, tAn X.K FA CA W w C (.cons e .nil) σ H Q → tE X.K FA CA W w C e σ H Q := by
  refine fun σ H Q ⟨F, ts, env, hl, s, post⟩ => ⟨F, ts, env, hl, s, ?_⟩
  have q : evalAnd C (.cons e .nil) env = evalE C e env := by unfold evalAnd; rfl
  rw [q] at post
  cases e1 : evalE C e env with
  | ok o env1 => rw [e1] at post; exact fun v H' F' a b c d => post v H' F' a b c fun z => d (pxs1 z)
  | ex c ds => rw [e1] at post; exact post
  | no => rw [e1] at post; exact post
theorem i_or1 {e : RF.X} : ∀ σ H Q, tOr X.K FA CA W w C (.cons e .nil) σ H Q → tE X.K FA CA W w C e σ H Q := by
  refine fun σ H Q ⟨F, ts, env, hl, s, post⟩ => ⟨F, ts, env, hl, s, ?_⟩
  have q : evalOr C (.cons e .nil) env = evalE C e env := by unfold evalOr; rfl
  rw [q] at post
  cases e1 : evalE C e env with
  | ok o env1 => rw [e1] at post; exact fun v H' F' a b c d => post v H' F' a b c fun z => d (pxs1 z)
  | ex c ds => rw [e1] at post; exact post
  | no => rw [e1] at post; exact post
theorem and2 {e f : RF.X} {es : Xs} {env : Env} : evalAnd C (.cons e (.cons f es)) env = (evalE C e env).bind fun x env1 => match x with
    | .z (.bl true) => evalAnd C (.cons f es) env1
    | .z (.bl false) => .ok (.z (.bl false)) env1
    | _ => .no := by
  (conv => lhs; unfold evalAnd) <;> rfl
theorem or2 {e f : RF.X} {es : Xs} {env : Env} : evalOr C (.cons e (.cons f es)) env = (evalE C e env).bind fun x env1 => match x with
    | .z (.bl false) => evalOr C (.cons f es) env1
    | .z (.bl true) => .ok (.z (.bl true)) env1
    | _ => .no := by
  (conv => lhs; unfold evalOr) <;> rfl
theorem px2 {e : RF.X} {es : Xs} : pureXs (.cons e es) = true → pureX e = true ∧ pureXs es = true := fun z => Bool.and_eq_true_iff.mp z
theorem i_and2 {e f : RF.X} {es : Xs} : ∀ σ H Q, tAn X.K FA CA W w C (.cons e (.cons f es)) σ H Q → tE X.K FA CA W w C e σ H fun x H1 => ∃ c, x = .bl c ∧ if c = true then tAn X.K FA CA W w C (.cons f es) σ H1 Q else Q (.bl false) H1 := by
  refine fun σ H Q ⟨F, ts, env, hl, s, post⟩ => ⟨F, ts, env, hl, s, ?_⟩
  rw [and2] at post
  refine bindE post fun o env1 v H1 F1 _ hl1 s1 sF1 p1 post => ?_
  have post := post.rebase sF1 fun z => (p1 (px2 z).1).1
  split at post
  · obtain rfl := RepV.bl (.rep s1.rep : RepV X.K FA F1 H1 v _)
    exact ⟨_, rfl, iteT ⟨F1, ts, env1, hl1, s1.tail, post.weakP fun z => (px2 z).2⟩⟩
  · obtain rfl := RepV.bl (.rep s1.rep : RepV X.K FA F1 H1 v _)
    exact ⟨_, rfl, iteF (post.z hl1 s1.tail (.bl _))⟩
  · exact post.elim
theorem i_or2 {e f : RF.X} {es : Xs} : ∀ σ H Q, tOr X.K FA CA W w C (.cons e (.cons f es)) σ H Q → tE X.K FA CA W w C e σ H fun x H1 => ∃ c, x = .bl c ∧ if c = true then Q (.bl true) H1 else tOr X.K FA CA W w C (.cons f es) σ H1 Q := by
  refine fun σ H Q ⟨F, ts, env, hl, s, post⟩ => ⟨F, ts, env, hl, s, ?_⟩
  rw [or2] at post
  refine bindE post fun o env1 v H1 F1 _ hl1 s1 sF1 p1 post => ?_
  have post := post.rebase sF1 fun z => (p1 (px2 z).1).1
  split at post
  · obtain rfl := RepV.bl (.rep s1.rep : RepV X.K FA F1 H1 v _)
    exact ⟨_, rfl, iteF ⟨F1, ts, env1, hl1, s1.tail, post.weakP fun z => (px2 z).2⟩⟩
  · obtain rfl := RepV.bl (.rep s1.rep : RepV X.K FA F1 H1 v _)
    exact ⟨_, rfl, iteT (post.z hl1 s1.tail (.bl _))⟩
  · exact post.elim
theorem tTest_of {t : TE} {g : Bool → Hp → Prop} {σ : L2.St} {H : Hp} (mono : ∀ Q Q' : VK, (∀ v H', Q v H' → Q' v H') → t σ H Q → t σ H Q') (h : t σ H fun x H1 => ∃ c, x = .bl c ∧ g c H1) : tTest t σ H g :=
  mono _ _ (fun _ _ z => z) h
theorem tE_mono {m : RF.X} {σ : L2.St} {H : Hp} {Q Q' : VK} (i : ∀ v H', Q v H' → Q' v H') (h : tE X.K FA CA W w C m σ H Q) : tE X.K FA CA W w C m σ H Q' := by
  obtain ⟨F, ts, env, hl, s, post⟩ := h
  refine ⟨F, ts, env, hl, s, ?_⟩
  cases e : evalE C m env with
  | ok o env1 => rw [e] at post; exact fun v H' F' a b c d => i _ _ (post v H' F' a b c d)
  | ex c ds => rw [e] at post; exact post
  | no => rw [e] at post; exact post
theorem c_and1 {e : RF.X} {u : Expr} {pos : Pos} (h : PE X u (tE X.K FA CA W w C e)) (ht : PT X u (tTest (tE X.K FA CA W w C e))) :
    PE X (.BoolOp .And [u] pos) (tAn X.K FA CA W w C (.cons e .nil)) ∧ PW X (.BoolOp .And [u] pos) (tTest (tAn X.K FA CA W w C (.cons e .nil))) :=
  ⟨PE.imp (pe_one h) i_and1, PW.imp (pw_and1 ht) fun _ _ _ h => i_and1 _ _ _ h⟩
theorem c_or1 {e : RF.X} {u : Expr} {pos : Pos} (h : PE X u (tE X.K FA CA W w C e)) (ht : PT X u (tTest (tE X.K FA CA W w C e))) :
    PE X (.BoolOp .Or [u] pos) (tOr X.K FA CA W w C (.cons e .nil)) ∧ PW X (.BoolOp .Or [u] pos) (tTest (tOr X.K FA CA W w C (.cons e .nil))) :=
  ⟨PE.imp (pe_one h) i_or1, PW.imp (pw_or1 ht) fun _ _ _ h => i_or1 _ _ _ h⟩
theorem c_and2 {e f : RF.X} {es : Xs} {u u' : Expr} {us : List Expr} {pos : Pos} (h : PE X u (tE X.K FA CA W w C e)) (ht : PT X u (tTest (tE X.K FA CA W w C e)))
    (h2 : PE X (.BoolOp .And (u' :: us) pos) (tAn X.K FA CA W w C (.cons f es)) ∧ PW X (.BoolOp .And (u' :: us) pos) (tTest (tAn X.K FA CA W w C (.cons f es)))) :
    PE X (.BoolOp .And (u :: u' :: us) pos) (tAn X.K FA CA W w C (.cons e (.cons f es))) ∧ PW X (.BoolOp .And (u :: u' :: us) pos) (tTest (tAn X.K FA CA W w C (.cons e (.cons f es)))) := by
  refine ⟨PE.imp (pe_and h h2.1) i_and2, PW.imp (pw_and ht h2.2) fun σ H Q q => ?_⟩
  refine tE_mono (fun v H1 z => ?_) (i_and2 _ _ _ q)
  obtain ⟨c, rfl, z⟩ := z
  refine ⟨c, rfl, ?_⟩
  cases c with
  | true =>
    rw [if_pos rfl] at z
    exact iteT z
  | false =>
    rw [if_neg Bool.false_ne_true] at z
    obtain ⟨k, e1, q⟩ := z
    cases e1
    exact iteF q
theorem c_or2 {e f : RF.X} {es : Xs} {u u' : Expr} {us : List Expr} {pos : Pos} (h : PE X u (tE X.K FA CA W w C e)) (ht : PT X u (tTest (tE X.K FA CA W w C e)))
    (h2 : PE X (.BoolOp .Or (u' :: us) pos) (tOr X.K FA CA W w C (.cons f es)) ∧ PW X (.BoolOp .Or (u' :: us) pos) (tTest (tOr X.K FA CA W w C (.cons f es)))) :
    PE X (.BoolOp .Or (u :: u' :: us) pos) (tOr X.K FA CA W w C (.cons e (.cons f es))) ∧ PW X (.BoolOp .Or (u :: u' :: us) pos) (tTest (tOr X.K FA CA W w C (.cons e (.cons f es)))) := by
  refine ⟨PE.imp (pe_or h h2.1) i_or2, PW.imp (pw_or ht h2.2) fun σ H Q q => ?_⟩
  refine tE_mono (fun v H1 z => ?_) (i_or2 _ _ _ q)
  obtain ⟨c, rfl, z⟩ := z
  refine ⟨c, rfl, ?_⟩
  cases c with
  | false =>
    rw [if_neg Bool.false_ne_true] at z
    exact iteF z
  | true =>
    rw [if_pos rfl] at z
    obtain ⟨k, e1, q⟩ := z
    cases e1
    exact iteT q
/-! ### items, slices -/
theorem c_ix {a i : RF.X} {x y : Expr} {pos : Pos} (hi : isE Nm X.N i sc y = true) (ha : PE X x (tV X.K FA CA W w C (pureX i) a)) (hb : PE X y (tE X.K FA CA W w C i)) : PE X (.Subscript x y pos) (tE X.K FA CA W w C (.ix a i)) := by
  refine PE.imp (pe_ix ix_seq ha hb (plainIx hi)) fun σ H Q ⟨F, ts, env, hl, s, post⟩ => ⟨F, ts, env, hl, s, ?_⟩
  unfold evalE at post
  have pp := fun z => Bool.and_eq_true_iff.mp (show (pureX a && pureX i) = true from z)
  refine bindV post fun dx env1 vx H1 F1 _ hl1 s1 rx rf sF1 p1 post => ⟨F1, ts, env1, hl1, s1, ?_⟩
  have post := post.rebase sF1 fun z => p1 (pp z).1
  refine bindE post fun o env2 vy H2 F2 _ hl2 s2 sF2 p2 post => ?_
  have post := post.rebase sF2 fun z => (p2 (pp z).2).1
  have rx2 : RepV X.K FA F2 H2 vx dx := by
    cases e : pureX i with
    | true => exact rx.mono sF2 (p2 e).1
    | false => exact .rep ((rf e).mono sF2)
  cases o with
  | z d =>
    cases d with
    | int j =>
      obtain rfl := RepV.int (.rep s2.rep : RepV X.K FA F2 H2 vy _)
      cases dx with
      | lst ds =>
        cases e : atI ds j with
        | none => simp only [e] at post; exact post.elim
        | some d => simp only [e] at post; exact ix_ok s2.tail rx2 e (post.done hl2)
      | tup ds =>
        cases e : atI ds j with
        | none => simp only [e] at post; exact post.elim
        | some d => simp only [e] at post; exact ix_ok s2.tail rx2 e (post.done hl2)
      | scr ns =>
        cases e : atI ns j with
        | none => simp only [e] at post; exact post.elim
        | some d => simp only [e] at post; exact ix_ok s2.tail rx2 (dd := .int d) (by simp only [e]; rfl) (post.done hl2)
      | _ => exact post.elim
    | _ => cases dx <;> exact post.elim
  | _ => cases dx <;> exact post.elim
def okP (K : PySem.W.Frag) (FA : Fns) (w : W0) (pu : Bool) (σ : L2.St) (F H : Hp) (ts : List (Option V × O)) (Q : Option Int → Hp → Prop) : Option Int → Env → Prop := fun o env' =>
  ∀ H' F', env'.length = σ.length → Hs K FA w F' H' (lv σ env' ++ ts) → Sub F F' → (pu = true → Sub H H') → Q o H'
def tPo (K : PySem.W.Frag) (FA : Fns) (CA : Nat → Option Addr) (W : WX) (w : W0) (C : Cfg) (m : Xo) : TO := fun σ H Q => ∃ F ts env, env.length = σ.length ∧ Hs K FA w F H (lv σ env ++ ts) ∧ PG K FA CA W w σ F (okP K FA w (pureXo m) σ F H ts Q) (evalPart C m env)
theorem PO.imp {e : Option Expr} {t t' : TO} (h : PO X e t) (i : ∀ σ H Q, t' σ H Q → t σ H Q) : PO X e t' := ⟨fun pins s σ H Q I q => h.run pins s σ H Q I (i _ _ _ q)⟩
theorem c_poN : PO X none (tPo X.K FA CA W w C .none) := PO.imp po_none fun σ H Q ⟨F, ts, env, hl, s, post⟩ => post H F hl s (Sub.refl _) fun _ => Sub.refl _
theorem c_poS {m : RF.X} {e : Expr} (h : PE X e (tE X.K FA CA W w C m)) : PO X (some e) (tPo X.K FA CA W w C (.some m)) := by
  refine PO.imp (po_some h) fun σ H Q ⟨F, ts, env, hl, s, post⟩ => ⟨F, ts, env, hl, s, ?_⟩
  unfold evalPart at post
  refine bindG post fun o env1 v H1 F1 _ hl1 s1 sF1 p1 post => ?_
  split at post
  · obtain rfl := RepV.int (.rep s1.rep : RepV X.K FA F1 H1 v _)
    exact ⟨_, rfl, post H1 F1 hl1 s1.tail sF1 fun z => (p1 z).1⟩
  · exact post.elim
theorem c_sl {a : RF.X} {lo hi : Xo} {x : Expr} {l h : Option Expr} {p pos : Pos} (ha : PE X x (tV X.K FA CA W w C (pureXo lo && pureXo hi) a)) (hl : PO X l (tPo X.K FA CA W w C lo)) (hh : PO X h (tPo X.K FA CA W w C hi)) : PE X (.Subscript x (.Slice l h none p) pos) (tE X.K FA CA W w C (.sl a lo hi)) := by
  refine PE.imp (pe_slice sl_list ha hl hh) fun σ H Q ⟨F, ts, env, hl, s, post⟩ => ⟨F, ts, env, hl, s, ?_⟩
  unfold evalE at post
  have pp := fun z => Bool.and_eq_true_iff.mp (show (pureX a && pureXo lo && pureXo hi) = true from z)
  refine bindV post fun dx env1 vx H1 F1 _ hl1 s1 rx rf sF1 p1 post => ⟨F1, ts, env1, hl1, s1, ?_⟩
  have post := post.rebase sF1 fun z => p1 (Bool.and_eq_true_iff.mp (pp z).1).1
  rw [Post.pg, PG.bind] at post
  refine post.imp fun l env2 _ post H2 F2 hl2 s2 sF2 p2 => ⟨F2, ts, env2, hl2, s2, ?_⟩
  have post := Post.pg.mpr post
  have post := post.rebase sF2 fun z => p2 (Bool.and_eq_true_iff.mp (pp z).1).2
  rw [Post.pg, PG.bind] at post
  refine post.imp fun u env3 _ post H3 F3 hl3 s3 sF3 p3 => ?_
  have post := Post.pg.mpr post
  have post := post.rebase sF3 fun z => p3 (pp z).2
  have rx3 : RepV X.K FA F3 H3 vx dx := by
    cases e : (pureXo lo && pureXo hi) with
    | true =>
      have e' := Bool.and_eq_true_iff.mp e
      exact (rx.mono sF2 (p2 e'.1)).mono sF3 (p3 e'.2)
    | false => exact .rep (((rf e).mono sF2).mono sF3)
  split at post
  · exact sl_ok s3 rx3 rfl (post.done hl3)
  · exact sl_ok s3 rx3 rfl (post.done hl3)
  · exact post.elim
theorem c_rev {a : RF.X} {x : Expr} {k : Nat} {p1 p2 p3 pos : Pos} (ha : PE X x (tV X.K FA CA W w C true a)) : PE X (.Subscript x (.Slice none none (some (.UnaryOp .USub (.Constant (.int 1) k p1) p2)) p3) pos) (tE X.K FA CA W w C (.rev a)) := by
  refine PE.imp (pe_revL ha) fun σ H Q ⟨F, ts, env, hl, s, post⟩ => ⟨F, ts, env, hl, s, ?_⟩
  unfold evalE at post
  refine bindV post fun dx env1 vx H1 F1 _ hl1 s1 rx rf sF1 p1 post => ?_
  have post := post.rebase sF1 fun z => p1 z
  split at post
  · obtain ⟨b, us, rfl, h1, r1⟩ := rx.lst s1.1.sub
    exact ⟨b, us, rfl, .of h1, fun p hp => Hs.freshList (post.done hl1) s1 r1.reverse hp⟩
  · exact post.elim
/-! ### built-ins -/
def okVs (K : PySem.W.Frag) (FA : Fns) (w : W0) (pu : Bool) (σ : L2.St) (F H : Hp) (ts : List (Option V × O)) (Q : List V → Hp → Prop) : List D → Env → Prop := fun ds env' =>
  ∀ vs H' F', env'.length = σ.length → RepVs K FA F' H' vs ds → Hs K FA w F' H' (lv σ env' ++ ts) → Sub F F' → (pu = true → Sub H H') → Q vs H'
def tVs (K : PySem.W.Frag) (FA : Fns) (CA : Nat → Option Addr) (W : WX) (w : W0) (C : Cfg) (es : Xs) : TA := fun σ H Q => ∃ F ts env, env.length = σ.length ∧ Hs K FA w F H (lv σ env ++ ts) ∧ PG K FA CA W w σ F (okVs K FA w (pureXs es) σ F H ts Q) (evalVs C es env)
theorem c_vnil : PA X [] (tVs X.K FA CA W w C .nil) := PA.imp pa_nil fun σ H Q ⟨F, ts, env, hl, s, post⟩ => post [] H F hl .nil s (Sub.refl _) fun _ => Sub.refl _
theorem c_vcons {e : RF.X} {es : Xs} {u : Expr} {us : List Expr} (hi : isE Nm X.N e sc u = true) (he : PE X u (tV X.K FA CA W w C (pureXs es) e)) (hs : PA X us (tVs X.K FA CA W w C es)) : PA X (u :: us) (tVs X.K FA CA W w C (.cons e es)) := by
  refine PA.imp (pa_cons he hs (star_cons hi)) fun σ H Q ⟨F, ts, env, hl, s, post⟩ => ⟨F, ts, env, hl, s, ?_⟩
  unfold evalVs at post
  refine bindVG post fun d env1 v H1 F1 _ hl1 s1 rv rf sF1 p1 post => ⟨F1, ts, env1, hl1, s1, ?_⟩
  rw [PG.bind] at post
  refine post.rebase sF1 fun ds env2 q vs H2 F2 hl2 hv s2 sF2 p2 => ?_
  refine q (v :: vs) H2 F2 hl2 (.cons ?_ hv) s2 (sF1.trans sF2) fun z => (p1 (px2 z).1).trans (p2 (px2 z).2)
  cases e : pureXs es with
  | true => exact rv.mono sF2 (p2 e)
  | false => exact .rep ((rf e).mono sF2)
theorem call_repr {X : Cx} (hg : X.A.guards = some []) (hu : X.A.units + 65 < cLine) : CallR X (.builtin "repr") (rBlt X.K .repr) := by
  intro pins s σ H xs us Q I r h
  obtain ⟨p, d, rfl, h1, h2, h3, h4, h5, q⟩ := h
  match us, r with
  | [u], .cons ru .nil =>
    obtain rfl : u = Value.ref p := ru
    obtain ⟨bs, rd⟩ := Dp.reads I d (.ref p) (.ref p) h1 rfl
    exact repr_of_reads' rd h3 (fun e => by rw [h4] at e; cases e) hg (by omega) (fun _ _ e => e) (fun h' u tk k => ⟨.str _, H, I.kept (t' := tk) k, ⟨u, rfl⟩, q⟩) h5
theorem call_sorted {X : Cx} (hu : X.A.units + 65 < cLine) : CallR X (.builtin "sorted") (rBlt X.K .sorted) := by
  intro pins s σ H vs us Q I r h
  rcases h with h | h | h
  · exact cr_sortedI pins s σ H vs us Q I r h
  · exact cr_sortedPO pins s σ H vs us Q I r h
  · exact RX.cr_sortedLL hu pins s σ H vs us Q I r h
theorem call_sum {X : Cx} (hc : X.calm = true) : CallR X (.builtin "sum") (rBlt X.K .sum) := by
  intro pins s σ H vs us Q I r h
  rcases h with h | h
  · exact cr_sum hc pins s σ H vs us Q I r h
  · exact RX.cr_sumL hc pins s σ H vs us Q I r h
theorem blt_free (c : Cok Nm FA CA C X W) {x : Str} (h : x ∈ bltNames) : X.mg x = none := c.blt x h
theorem boot_enum' : True := trivial
theorem c_blt {b : Blt} {e : RF.X} {es : Xs} {x : Str} {u : Expr} {us : List Expr} {p pos : Pos} (c : Cok Nm FA CA C X W) (r : ScR X sc) (hi : isEs Nm X.N (.cons e es) sc (u :: us) = true) (hb : bltIs b (u :: us).length x = true) (hg : glB sc x = true)
    (ha : PA X (u :: us) (tVs X.K FA CA W w C (.cons e es))) : PE X (.Call (.Name x p) (u :: us) [] pos) (tE X.K FA CA W w C (.blt b (.cons e es))) := by
  obtain ⟨g1, g2⟩ := glB_ok r hg
  have hi' : isE Nm X.N e sc u = true ∧ isEs Nm X.N es sc us = true := by simpa [isEs] using hi
  have fin : PE X (.Call (.Name x p) (u :: us) [] pos) (tCB (rBlt X.K b) (tVs X.K FA CA W w C (.cons e es))) := by
    have st := star_cons (env := X.env) (es := us) hi'.1
    have sa := star_any (env := X.env) (pos := pos) hi'.2
    have k : ∀ {y : Str}, (x == y) = true → x = y := fun h => by simpa using h
    cases b <;> (rcases us with _ | ⟨u2, _ | ⟨u3, us⟩⟩) <;> first | (simp [bltIs] at hb; done) | skip
    · obtain rfl := k (y := "len") (by simpa [bltIs] using hb)
      exact pe_callB call_len_seq g1 (c.blt _ (by decide)) PySem.boot_len ha (he := st) (hpl := sa)
    · obtain rfl := k (y := "abs") (by simpa [bltIs] using hb)
      exact pe_callB call_abs g1 (c.blt _ (by decide)) boot_abs ha (he := st) (hpl := sa)
    · obtain rfl := k (y := "sum") (by simpa [bltIs] using hb)
      exact pe_callB (call_sum c.calm) g1 (c.blt _ (by decide)) boot_sum ha (he := st) (hpl := sa)
    · obtain rfl := k (y := "sum") (by simpa [bltIs] using hb)
      exact pe_callB (call_sum c.calm) g1 (c.blt _ (by decide)) boot_sum ha (he := st) (hpl := sa)
    · obtain rfl := k (y := "max") (by simpa [bltIs] using hb)
      exact pe_callB (cr_max c.calm) g1 (c.blt _ (by decide)) boot_max ha (he := st) (hpl := sa)
    · obtain rfl := k (y := "min") (by simpa [bltIs] using hb)
      exact pe_callB (cr_min c.calm) g1 (c.blt _ (by decide)) boot_min ha (he := st) (hpl := sa)
    · obtain rfl := k (y := "max") (by simpa [bltIs] using hb)
      exact pe_callB (call_max2 c.calm) g1 (c.blt _ (by decide)) boot_max ha (he := st) (hpl := sa)
    · obtain rfl := k (y := "min") (by simpa [bltIs] using hb)
      exact pe_callB (call_min2 c.calm) g1 (c.blt _ (by decide)) boot_min ha (he := st) (hpl := sa)
    · obtain rfl := k (y := "int") (by simpa [bltIs] using hb)
      exact pe_callTy call_int1 g1 (c.blt _ (by decide)) (by decide +kernel) ha (he := st) (hpl := sa)
    · obtain rfl := k (y := "list") (by simpa [bltIs] using hb)
      exact pe_callTy call_list_of g1 (c.blt _ (by decide)) (by decide +kernel) ha (he := st) (hpl := sa)
    · obtain rfl := k (y := "tuple") (by simpa [bltIs] using hb)
      exact pe_callTy call_tuple_of g1 (c.blt _ (by decide)) (by decide +kernel) ha (he := st) (hpl := sa)
    · obtain rfl := k (y := "sorted") (by simpa [bltIs] using hb)
      exact pe_callB (call_sorted c.un) g1 (c.blt _ (by decide)) (by decide +kernel) ha (he := st) (hpl := sa)
    · obtain rfl := k (y := "all") (by simpa [bltIs] using hb)
      exact pe_callB (cr_all c.calm) g1 (c.blt _ (by decide)) boot_all ha (he := st) (hpl := sa)
    · obtain rfl := k (y := "repr") (by simpa [bltIs] using hb)
      exact pe_callB (call_repr c.gd c.un) g1 (c.blt _ (by decide)) (by decide +kernel) ha (he := st) (hpl := sa)
  refine PE.imp fin fun σ H Q ⟨F, ts, env, hl, s, post⟩ => ⟨F, ts, env, hl, s, ?_⟩
  unfold evalE at post
  rw [Post.pg, PG.bind] at post
  refine post.imp fun ds env1 _ q vs H1 F1 hl1 rv s1 sF1 p1 => ?_
  have post := (Post.pg.mpr q).rebase sF1 fun z => p1 z
  cases e1 : bltV b ds with
  | none => rw [e1] at post; exact post.elim
  | some o => rw [e1] at post; exact blt_ok s1 rv e1 (post.done hl1)
end
end RF
/-! RFj: calls. -/
namespace RF
open L2 PySem PySem.Spec PyProof.Rows
section
variable {Nm : Names} {FA : Fns} {CA : Nat → Option Addr} {C : Cfg} {X : Cx} {W : WX} {w : W0} {sc : Scope}
variable {σ : L2.St} {F F' F1 H H' H1 : Hp} {ts : List (Option V × O)} {Q Q1 : VK} {pu pu1 fl : Bool}
/-! ### arguments -/
inductive ArgsR (K : PySem.W.Frag) (FA : Fns) (F : Hp) (σ : L2.St) : List V → List Ar → Prop
  | nil : ArgsR K FA F σ [] []
  | val {v : V} {d : D} {vs : List V} {as : List Ar} : Rep K FA F v d → ArgsR K FA F σ vs as → ArgsR K FA F σ (v :: vs) (.val d :: as)
  | ref {v : V} {i : Nat} {vs : List V} {as : List Ar} : σ[i]? = some (some v) → ArgsR K FA F σ vs as → ArgsR K FA F σ (v :: vs) (.ref i :: as)
theorem ArgsR.mono {K : PySem.W.Frag} {vs : List V} {as : List Ar} (h : ArgsR K FA F σ vs as) (s : Sub F F') : ArgsR K FA F' σ vs as := by
  induction h with
  | nil => exact .nil
  | val r _ ih => exact .val (r.mono s) ih
  | ref r _ ih => exact .ref r ih
theorem ArgsR.length {K : PySem.W.Frag} {vs : List V} {as : List Ar} (h : ArgsR K FA F σ vs as) : vs.length = as.length := by
  induction h with
  | nil => rfl
  | val r _ ih => simp [ih]
  | ref r _ ih => simp [ih]
def okAr (K : PySem.W.Frag) (FA : Fns) (w : W0) (pu : Bool) (σ : L2.St) (F H : Hp) (ts : List (Option V × O)) (Q : List V → Hp → Prop) : List Ar → Env → Prop := fun as env' =>
  ∀ vs H' F', env'.length = σ.length → ArgsR K FA F' σ vs as → Hs K FA w F' H' (lv σ env' ++ ts) → Sub F F' → (pu = true → Sub H H') → Q vs H'
def tAr (K : PySem.W.Frag) (FA : Fns) (CA : Nat → Option Addr) (W : WX) (w : W0) (C : Cfg) (ms : List Bool) (es : Xs) : TA := fun σ H Q => ∃ F ts env, env.length = σ.length ∧ Hs K FA w F H (lv σ env ++ ts) ∧ PG K FA CA W w σ F (okAr K FA w (pureXs es) σ F H ts Q) (evalArgs C es ms env)
theorem c_anil {ms : List Bool} : PA X [] (tAr X.K FA CA W w C ms .nil) := PA.imp pa_nil fun σ H Q ⟨F, ts, env, hl, s, post⟩ => by
  unfold evalArgs at post
  cases ms with
  | nil => exact post [] H F hl .nil s (Sub.refl _) fun _ => Sub.refl _
  | cons m ms => exact post.elim
theorem c_acons {e : RF.X} {es : Xs} {u : Expr} {us : List Expr} {ms : List Bool} (r : ScR X sc) (hi : isE Nm X.N e sc u = true) (he : PE X u (tE X.K FA CA W w C e)) (hs : ∀ ms, PA X us (tAr X.K FA CA W w C ms es)) : PA X (u :: us) (tAr X.K FA CA W w C ms (.cons e es)) := by
  cases ms with
  | nil => exact PA.imp (pa_cons he (hs []) (star_cons hi)) fun σ H Q ⟨F, ts, env, hl, s, post⟩ => by unfold evalArgs at post; exact post.elim
  | cons m ms =>
    cases m with
    | false =>
      refine PA.imp (pa_cons he (hs ms) (star_cons hi)) fun σ H Q ⟨F, ts, env, hl, s, post⟩ => ⟨F, ts, env, hl, s, ?_⟩
      unfold evalArgs at post
      refine bindG post fun o env1 v H1 F1 _ hl1 s1 sF1 p1 post => ?_
      obtain ⟨F2, sF2, s2⟩ := s1.freeze
      refine ⟨F2, ts, env1, hl1, s2.tail, ?_⟩
      rw [PG.bind] at post
      refine post.rebase (sF1.trans sF2) fun as env2 q vs H3 F3 hl3 ra s3 sF3 p3 => ?_
      exact q (v :: vs) H3 F3 hl3 (.val (s2.rep.mono sF3) ra) s3 ((sF1.trans sF2).trans sF3) fun z => (p1 (px2 z).1).1.trans (p3 (px2 z).2)
    | true =>
      cases e with
      | v i =>
        cases u with
        | Name x pos =>
          refine PA.imp (pa_cons (pe_slot r (show visB X.N sc i x = true by simpa [isE] using hi)) (hs ms) (star_cons hi)) fun σ H Q ⟨F, ts, env, hl, s, post⟩ => ?_
          unfold evalArgs at post
          cases e1 : getE env i with
          | none => simp only [e1] at post; exact post.elim
          | some o =>
            simp only [e1] at post
            obtain ⟨v, e2, _⟩ := s.take hl e1
            refine ⟨v, e2, F, ts, env, hl, s, ?_⟩
            rw [PG.bind] at post
            refine post.rebase (Sub.refl _) fun as env2 q vs H3 F3 hl3 ra s3 sF3 p3 => ?_
            exact q (v :: vs) H3 F3 hl3 (.ref e2 ra) s3 sF3 fun z => p3 (px2 z).2
        | _ => simp [isE] at hi
      | _ => exact PA.imp (pa_cons he (hs ms) (star_cons hi)) fun σ H Q ⟨F, ts, env, hl, s, post⟩ => by unfold evalArgs at post; exact post.elim
/-! ### behind a call -/
theorem HR.call {K : PySem.W.Frag} {M : List Addr} (hr : HR w F H) (qM : ∀ a ∈ M, a ∈ w.M ∨ w.H0 a = none) (h : HR ⟨H, M, F, []⟩ F' H') (hM : ∀ a ∈ M, ∃ xs, H a = some (.lst xs)) : HR w F' H' where
  sub := h.sub
  sub0 := hr.sub0.trans h.sub0
  new := fun a o e => by
    rcases h.new a o e with z | z | z | z
    · exact hr.new a o z
    · exact .inr (.inl (hr.dom a z))
    · rcases qM a z with z | z
      · exact .inr (.inr (.inl z))
      · exact .inr (.inl z)
    · cases q : w.H0 a with
      | none => exact .inr (.inl rfl)
      | some o' =>
        by_cases m : a ∈ w.M
        · exact .inr (.inr (.inl m))
        · have e1 := hr.keep a o' q m
          have z1 : H a = some o := z.1
          rw [e1] at z1
          obtain rfl := Option.some.inj z1
          exact .inr (.inr (.inr ⟨rfl, z.2⟩))
  keep := fun a o e m => by
    refine h.keep a o (hr.keep a o e m) fun z => ?_
    rcases qM a z with z | z
    · exact m z
    · rw [z] at e; cases e
  dom := fun a e => hr.dom a (h.dom a e)
  tups := h.tups
  tabs := Tabs.stay hr.tabs fun b o e n => h.keep b o e fun m => by
    obtain ⟨xs, e'⟩ := hM b m
    rw [e] at e'
    obtain rfl := Option.some.inj e'
    exact n _ rfl
  ntb := h.ntb
theorem Hs.call {K : PySem.W.Frag} {M B : List Addr} {cs ps : List (Option V × O)} (hr : HR w F H) (rB : RepL K FA F H ps B) (ndB : B.Nodup) (qB : ∀ a ∈ B, F a = none ∧ (a ∈ w.M ∨ w.H0 a = none)) (dj : ∀ a ∈ M, a ∉ B)
    (qM : ∀ a ∈ M, a ∈ w.M ∨ w.H0 a = none) (hM : ∀ a ∈ M, ∃ xs, H a = some (.lst xs)) (sc : Hs K FA ⟨H, M, F, []⟩ F' H' cs) : Hs K FA w F' H' (cs ++ ps) := by
  obtain ⟨hc, A, rA, ndA, qA⟩ := sc
  have hB : ∀ a ∈ B, ∃ xs, H a = some (.lst xs) ∧ H' a = some (.lst xs) := fun a m => by
    obtain ⟨xs, e⟩ := rB.dom a m
    exact ⟨xs, e, hc.keep a _ e fun z => dj a z m⟩
  refine ⟨HR.call (K := K) hr qM hc hM, A ++ B, RepL.app rA (rB.frame hc.sub0 (fun a m => ?_) (fun a xs e => hc.sub _ _ (hc.sub0 _ _ (hr.tups _ _ e)))), List.nodup_append.mpr ⟨ndA, ndB, fun a ma b mb e => ?_⟩, fun a m => ?_⟩
  · obtain ⟨xs, e, e'⟩ := hB a m
    rw [e, e']
  · subst e
    obtain ⟨xs, e, e'⟩ := hB a mb
    rcases (qA a ma).2 with z | z
    · exact dj a z mb
    · have z' : H a = none := z
      rw [e] at z'; cases z'
  · rcases List.mem_append.mp m with m | m
    · refine ⟨(qA a m).1, ?_⟩
      rcases (qA a m).2 with z | z
      · exact qM a z
      · exact .inr (hr.dom a z)
    · refine ⟨?_, (qB a m).2⟩
      obtain ⟨xs, e, e'⟩ := hB a m
      cases q : F' a with
      | none => rfl
      | some o =>
        rcases hc.new a o q with z | z | z | z
        · have z' : F a = some o := z
          rw [(qB a m).1] at z'; cases z'
        · have z' : H a = none := z
          rw [e] at z'; cases z'
        · exact absurd m (dj a z)
        · have z' : H a = some o := z.1
          rw [e] at z'
          exact absurd (Option.some.inj z').symm (z.2 _)
where
  RepL.app {F' H' : Hp} : ∀ {ps qs : List (Option V × O)} {A B : List Addr}, RepL K FA F' H' ps A → RepL K FA F' H' qs B → RepL K FA F' H' (ps ++ qs) (A ++ B)
    | _, _, _, _, .nil, s => s
    | _, _, _, _, .cons h r, s => by
      rw [List.append_assoc]
      exact .cons h (RepL.app r s)
/-- no slot is handed in -/
theorem args0 {K : PySem.W.Frag} {vs : List V} {as : List Ar} (h : ArgsR K FA F σ vs as) : ∀ {env : Env} {os : List O}, Ar.slots as = [] → Ar.fetch env as = some os →
    RepOs K FA F H vs os [] ∧ modeOk (as.map Ar.isRef) os = true ∧ topA vs os = [] ∧ ∀ us, outsOf (as.map Ar.isRef) vs us = [] := by
  induction h with
  | nil =>
    intro env os _ e
    cases e
    exact ⟨.nil, rfl, rfl, fun us => rfl⟩
  | @val v d vs as r ra ih =>
    intro env os e1 e2
    have e2 : (Ar.fetch env as).map (O.z d :: ·) = some os := e2
    cases e3 : Ar.fetch env as with
    | none => rw [e3] at e2; cases e2
    | some us =>
      rw [e3] at e2
      cases e2
      obtain ⟨h1, h2, h3, h4⟩ := ih e1 e3
      refine ⟨RepOs.cons (A := []) (.z r) h1, h2, ?_, fun us => ?_⟩
      · show topA (v :: vs) (O.z d :: us) = []
        cases v <;> exact h3
      · show outsOf (false :: as.map Ar.isRef) (v :: vs) us = []
        cases us <;> exact h4 _
  | ref r ra ih =>
    intro env os e1 e2
    cases e1
/-- one slot is handed in -/
theorem args1 {K : PySem.W.Frag} {vs : List V} {as : List Ar} {i : Nat} {g : Addr} {us : List O} (h : ArgsR K FA F σ vs as) (hg : σ[i]? = some (some (.ref g))) : ∀ {env : Env} {os : List O}, Ar.slots as = [i] → Ar.fetch env as = some os →
    getE env i = some (.l us) → RepO K FA F H (.ref g) (.l us) [g] →
    RepOs K FA F H vs os [g] ∧ modeOk (as.map Ar.isRef) os = true ∧ topA vs os = [g] ∧ ∀ u, outsOf (as.map Ar.isRef) vs [u] = [(some (.ref g), u)] := by
  induction h with
  | nil => intro env os e; cases e
  | @val v d vs as r ra ih =>
    intro env os e1 e2 e4 rg
    have e2 : (Ar.fetch env as).map (O.z d :: ·) = some os := e2
    cases e3 : Ar.fetch env as with
    | none => rw [e3] at e2; cases e2
    | some us =>
      rw [e3] at e2
      cases e2
      obtain ⟨h1, h2, h3, h4⟩ := ih e1 e3 e4 rg
      refine ⟨RepOs.cons (A := []) (.z r) h1, h2, ?_, fun u => h4 u⟩
      show topA (v :: vs) (O.z d :: us) = [g]
      cases v <;> exact h3
  | @ref v j vs as r ra ih =>
    intro env os e1 e2 e4 rg
    have e1' : j :: Ar.slots as = [i] := e1
    obtain ⟨rfl, e5⟩ := List.cons.inj e1'
    rw [hg] at r
    cases r
    have e2 : (match getE env j with | some (.l os) => if os.all O.isZ then (Ar.fetch env as).map (.l os :: ·) else none | _ => none) = some os := e2
    rw [e4] at e2
    have e2 : (if us.all O.isZ = true then (Ar.fetch env as).map (O.l us :: ·) else none) = some os := e2
    split at e2
    · rename_i hz
      cases e3 : Ar.fetch env as with
      | none => rw [e3] at e2; cases e2
      | some us' =>
        rw [e3] at e2
        cases e2
        obtain ⟨h1, h2, h3, h4⟩ := args0 (H := H) ra e5 e3
        refine ⟨RepOs.cons (A := [g]) rg h1, ?_, ?_, fun u => ?_⟩
        · show (us.all O.isZ && modeOk (as.map Ar.isRef) us') = true
          rw [hz, h2]; rfl
        · show g :: topA vs us' = [g]
          rw [h3]
        · show (some (V.ref g), u) :: outsOf (as.map Ar.isRef) vs [] = _
          rw [h4]
    · cases e2
/-- a call's promise, from the evaluator's end -/
theorem call_ok {p : Bool} {f : Nat} {as : List Ar} {vs : List V} {env0 env1 : Env} {F0 H0 : Hp} (hl0 : env0.length = σ.length) (hl1 : env1.length = σ.length)
    (s0 : Hs X.K FA w F0 H0 (lv σ env0 ++ ts)) (s1 : Hs X.K FA w F H (lv σ env1 ++ ts)) (sF : Sub F0 F) (pH : p = true → Sub H0 H) (hpu : pu = true → p = true)
    (ra : ArgsR X.K FA F σ vs as) (post : Post X.K FA CA W w pu σ F0 H0 ts Q (doCall C p f env0 env1 as)) :
    spG X.K FA CA (C.sig f) (C.call f) vs H Q (WE W σ) := by
  unfold doCall at post
  split at post
  · rename_i hsig
    rw [← hsig]
    cases ef : Ar.fetch env1 as with
    | none => rw [ef] at post; exact post.elim
    | some os =>
      rw [ef] at post
      have hlen : vs.length = (as.map Ar.isRef).length := by rw [List.length_map]; exact ra.length
      cases es : Ar.slots as with
      | nil =>
        simp only [es] at post
        obtain ⟨h1, h2, h3, h4⟩ := args0 (H := H) ra es ef
        obtain ⟨hr, B, rB, ndB, qB⟩ := id s1
        refine ⟨F, os, hlen, h2, ⟨⟨hr.sub, Sub.refl _, fun a o e => .inl e, fun a o e _ => e, fun a e => e, hr.tups, fun _ m => (nomatch m), hr.ntb⟩, [], ?_, List.nodup_nil, fun a m => nomatch m⟩, ?_⟩
        · have := RepL.of_os (ps := []) h1 .nil
          simpa using this
        rw [h3]
        cases ec : C.call f os with
        | no => rw [ec] at post; exact post.elim
        | ex c ds =>
          rw [ec] at post
          exact fun H' F' od a e sf hc x => post H' F' od a e (sF.trans sf) (HR.call (K := X.K) (M := []) hr (fun a m => nomatch m) hc (fun a m => nomatch m)) x
        | rt o outs =>
          rw [ec] at post
          cases outs with
          | cons u us => exact post.elim
          | nil =>
            intro v H' F' sf scl
            rw [h4] at scl
            have s2 : Hs X.K FA w F' H' ((some v, o) :: (lv σ env1 ++ ts)) := Hs.call (M := []) (cs := [(some v, o)]) hr rB ndB qB (fun a m => nomatch m) (fun a m => nomatch m) (fun a m => nomatch m) scl
            have hH : Sub H H' := fun a ob e => scl.1.keep a ob e (fun m => nomatch m)
            have fr : Fresh X.K FA F' H H' v o := by
              obtain ⟨_, A, rA, _, qA⟩ := scl
              cases rA with
              | cons rA rn =>
                cases rn
                refine ⟨_, rA, fun a m => ?_⟩
                rcases (qA a (List.mem_append_left _ m)).2 with z | z
                · cases z
                · exact z
            have post : Post X.K FA CA W w pu σ F0 H0 ts Q (if p && o.clean then R.ok o env0 else R.ok o env1) := post
            split at post
            · rename_i hz
              have hz' := Bool.and_eq_true_iff.mp hz
              obtain ⟨F2, sF2, fr2, s3⟩ := Hs.restore s0 s2 ((pH hz'.1).trans hH) (sF.trans sf) (fr.weak (pH hz'.1)) hz'.2
              exact post v H' F2 hl0 s3 sF2 fun _ => ⟨(pH hz'.1).trans hH, fr2⟩
            · exact post v H' F' hl1 s2 (sF.trans sf) fun z => ⟨(pH (hpu z)).trans hH, fr.weak (pH (hpu z))⟩
      | cons i is =>
        cases is with
        | cons j js => simp only [es] at post; exact post.elim
        | nil =>
          simp only [es] at post
          split at post
          · exact post.elim
          · rename_i hp
            -- the slot
            have slot : ∃ us, getE env1 i = some (.l us) ∧ us.all O.isZ = true := slot_of es ef
            obtain ⟨us, eg, hz⟩ := slot
            obtain ⟨v, ev, s2⟩ := s1.take hl1 eg
            obtain ⟨g, gs, rfl, hg, _⟩ := s2.own
            obtain ⟨hr, A, rA, ndA, qA⟩ := id s2
            cases rA with
            | @cons _ _ _ A1 B h1 rB =>
              have hflat : RepO X.K FA F H (.ref g) (.l us) [g] ∧ A1 = [g] := by
                cases h1 with
                | l e r =>
                  obtain ⟨e', r'⟩ := r.allZ hz
                  subst e'
                  exact ⟨.l e r, rfl⟩
              obtain ⟨rg, rfl⟩ := hflat
              obtain ⟨g1, g2, g3, g4⟩ := args1 (H := H) ra ev es ef eg rg
              have nd2 := List.nodup_append.mp ndA
              have qg := qA g (List.mem_append_left _ (List.mem_singleton.mpr rfl))
              have dj : ∀ a ∈ [g], a ∉ B := fun a m mb => nd2.2.2 a m a mb rfl
              have hM : ∀ a ∈ [g], ∃ xs, H a = some (.lst xs) := fun a m => by rw [List.mem_singleton.mp m]; exact ⟨_, hg⟩
              have qM : ∀ a ∈ [g], a ∈ w.M ∨ w.H0 a = none := fun a m => by rw [List.mem_singleton.mp m]; exact qg.2
              refine ⟨F, os, hlen, g2, ⟨⟨hr.sub, Sub.refl _, fun a o e => .inl e, fun a o e _ => e, fun a e => e, hr.tups, fun _ m => (nomatch m), hr.ntb⟩, [g], ?_, by simp, fun a m => ?_⟩, ?_⟩
              · have := RepL.of_os (ps := []) g1 .nil
                simpa using this
              · rw [List.mem_singleton.mp m, g3]
                exact ⟨qg.1, .inl (List.mem_singleton.mpr rfl)⟩
              rw [g3]
              cases ec : C.call f os with
              | no => rw [ec] at post; exact post.elim
              | ex c ds =>
                rw [ec] at post
                exact fun H' F' od a e sf hc x => post H' F' od a e (sF.trans sf) (HR.call (K := X.K) hr qM hc hM) x
              | rt o outs =>
                rw [ec] at post
                match outs, post with
                | [.l us'], post =>
                  intro v H' F' sf scl
                  rw [g4] at scl
                  have s3 : Hs X.K FA w F' H' ([(some v, o), (some (.ref g), .l us')] ++ (lv σ (env1.set i none) ++ ts)) :=
                    Hs.call hr rB nd2.2.1 (fun a m => qA a (List.mem_append_right _ m)) dj qM hM scl
                  have s4 : Hs X.K FA w F' H' ((some (.ref g), .l us') :: (lv σ (env1.set i none) ++ ((some v, o) :: ts))) := s3.perm ((List.Perm.swap _ _ _).trans ((List.perm_middle.symm).cons _))
                  have s5 := s4.back hl1 ev
                  exact post v H' F' (by rw [List.length_set]; exact hl1) s5.ofTemp (sF.trans sf) fun z => absurd (hpu z) hp
                | [], post => exact post.elim
                | [.z _], post => exact post.elim
                | [.t _], post => exact post.elim
                | a :: b :: l, post => cases a <;> exact post.elim
  · exact post.elim
where
  slot_of : ∀ {as : List Ar} {env1 : Env} {os : List O} {i : Nat}, Ar.slots as = [i] → Ar.fetch env1 as = some os → ∃ us, getE env1 i = some (.l us) ∧ us.all O.isZ = true
    | [], _, _, _, e, _ => by cases e
    | .val d :: as, env1, os, i, e, f => by
      have f : (Ar.fetch env1 as).map (O.z d :: ·) = some os := f
      cases e3 : Ar.fetch env1 as with
      | none => rw [e3] at f; cases f
      | some us => exact slot_of (as := as) e e3
    | .ref j :: as, env1, os, i, e, f => by
      have e : j :: Ar.slots as = [i] := e
      obtain ⟨rfl, e⟩ := List.cons.inj e
      have f : (match getE env1 j with | some (.l os) => if os.all O.isZ then (Ar.fetch env1 as).map (.l os :: ·) else none | _ => none) = some os := f
      cases e4 : getE env1 j with
      | none => rw [e4] at f; cases f
      | some o =>
        rw [e4] at f
        cases o with
        | l us =>
          have f : (if us.all O.isZ = true then (Ar.fetch env1 as).map (O.l us :: ·) else none) = some os := f
          split at f
          · rename_i hz; exact ⟨us, rfl, hz⟩
          · cases f
        | z d => cases f
        | t us => cases f
end
end RF
/-! RFk: calls as expressions; isinstance; what loops walk. -/
namespace RF
open L2 PySem PySem.Spec PyProof.Rows
section
variable {Nm : Names} {FA : Fns} {CA : Nat → Option Addr} {C : Cfg} {X : Cx} {W : WX} {w : W0} {sc : Scope}
variable {σ : L2.St} {F F' F1 H H' H1 : Hp} {ts : List (Option V × O)} {Q Q1 : VK} {pu pu1 fl : Bool}
/-- a def called -/
theorem run_g {f : Addr} {k : Nat} {fd : FuncData} {ps : List Str} {sp : Sp} {pins : List (Addr × Obj)} {s : Shared} {us : List Value} {vs : List V} {E : XK} (g : X.A.guards = some []) (G : FnG X.prog X.w X.K X.mg X.base (L2.CX X.prog X.w) k f fd ps sp) (hr : Room k X.A)
    (hb : Binds X.K fd ps []) (hx : ∀ e s', L2.CX X.prog X.w X.stack H s E e s' → X.xe e s') (I : Inv X pins σ H s) (r : Vals vs us) (z : sp vs H Q E) : wpAny (model X.prog X.w) X.A (call (.ref f) us) (EP X pins σ Q) X.xe s := by
  have n : (us ++ []).length = ps.length := by rw [List.append_nil, ← r.length]; exact G.len _ _ _ _ z
  have b := hb s us I.kIn n
  rw [List.append_nil] at b
  refine wpAny_call (codeAny_mono (G.run _ _ _ _ ⟨us, []⟩ us vs Q E hr g I.env0 b r z) fun res s' q => ?_)
  match res, q with
  | .error e, q => exact hx e s' q
  | .ok (.ret u), q => exact I.after q
  | .ok .next, q => exact False.elim q
  | .ok .brk, q => exact False.elim q
  | .ok .cont, q => exact False.elim q
theorem run_sp (c : Cok Nm FA CA C X W) {f : Nat} {a : Addr} (hf : FA f = some a) {pins : List (Addr × Obj)} {s : Shared} {us : List Value} {vs : List V} (I : Inv X pins σ H s) (r : Vals vs us) (h : spG X.K FA CA (C.sig f) (C.call f) vs H Q (WE W σ)) :
    wpAny (model X.prog X.w) X.A (call (.ref a) us) (EP X pins σ Q) X.xe s := by
  obtain ⟨x, k, fd, h1, h2, h3, h4, h5, h6, _⟩ := c.fns f a hf
  exact run_g c.gd h6 h5 h4 (fun e s' q => passAt c.takes σ pins H s e s' I q) I r h
theorem c_call {q : Bool} {f : Nat} {es : Xs} {x : Str} {us : List Expr} {p pos : Pos} (c : Cok Nm FA CA C X W) (r : ScR X sc) (hf : Nm.fn f = some x) (hg : glB sc x = true) (hi : isEs Nm X.N es sc us = true) (hq : (!q || pureXs es) = true)
    (ha : ∀ ms, PA X us (tAr X.K FA CA W w C ms es)) : PE X (.Call (.Name x p) us [] pos) (tE X.K FA CA W w C (.call q f es)) := by
  refine ⟨fun pins s σ H Q I h => ?_⟩
  obtain ⟨F, ts, env, hl, s0, post⟩ := h
  obtain ⟨a, ea⟩ := c.has f x hf
  obtain ⟨x', k, fd, h1, h2, h3, h4, h5, h6, _⟩ := c.fns f a ea
  obtain rfl : x' = x := Option.some.inj (h1.symm.trans hf)
  obtain ⟨g1, g2⟩ := glB_ok r hg
  unfold evalE at post
  rw [Post.pg, PG.bind] at post
  have go : ∀ (as : List Ar) (env1 : Env), evalArgs C es (C.sig f) env = .ok as env1 → PG X.K FA CA W w σ F (okE X.K FA w (pureX (.call q f es)) σ F H ts Q) (doCall C q f env env1 as) →
      okAr X.K FA w (pureXs es) σ F H ts (fun vs H1 => spG X.K FA CA (C.sig f) (C.call f) vs H1 Q (WE W σ)) as env1 := fun as env1 _ z vs H1 F1 hl1 ra s1 sF1 p1 =>
    call_ok hl hl1 s0 s1 sF1 (fun e => p1 (by rw [e] at hq; exact hq)) (fun e => (Bool.and_eq_true_iff.mp (show (q && pureXs es) = true from e)).1) ra (Post.pg.mpr z)
  refine wpAny_Call_Name_kw (ld_glob I g1 h2 ?_ g2)
  cases us with
  | nil =>
    cases es with
    | nil =>
      have z := post.imp go
      unfold evalArgs at z
      split at z
      · have z := z [] H F hl .nil s0 (Sub.refl _) fun _ => Sub.refl _
        exact PySem.W.callWith_K0 I.kIn h3 (run_sp (us := []) c ea I .nil z)
      · exact z.elim
    | cons e es => simp [isEs] at hi
  | cons u us =>
    cases es with
    | nil => simp [isEs] at hi
    | cons e es =>
      have hi' : isE Nm X.N e sc u = true ∧ isEs Nm X.N es sc us = true := by simpa [isEs] using hi
      exact PySem.W.callWith_K (h₀ := X.base) I.ok.mod.kin h3 (thn ((ha (C.sig f)).run pos pins s σ H _ I ⟨F, ts, env, hl, s0, post.imp go⟩) fun us s1 ⟨vs, H1, I1, r, q⟩ => ⟨I1.kIn, run_sp c ea I1 r q⟩) (star_cons hi'.1) (star_any hi'.2)
theorem c_callv {i : Nat} {es : Xs} {x : Str} {us : List Expr} {p pos : Pos} (c : Cok Nm FA CA C X W) (r : ScR X sc) (hv : visB X.N sc i x = true) (hi : isEs Nm X.N es sc us = true) (hq : pureXs es = true)
    (ha : ∀ ms, PA X us (tAr X.K FA CA W w C ms es)) : PE X (.Call (.Name x p) us [] pos) (tE X.K FA CA W w C (.callv i es)) := by
  refine ⟨fun pins s σ H Q I h => ?_⟩
  obtain ⟨F, ts, env, hl, s0, post⟩ := h
  unfold evalE at post
  cases eg : getE env i with
  | none => rw [eg] at post; exact post.elim
  | some o =>
    rw [eg] at post
    match o, eg, post with
    | .z (.fn f), eg, post =>
      obtain ⟨v, e1, rp⟩ := s0.slotRep hl eg
      cases rp with
      | @fn _ a ea =>
        obtain ⟨x', k, fd, h1, h2, h3, h4, h5, h6, _⟩ := c.fns f a ea
        rw [Post.pg, PG.bind] at post
        have go : ∀ (as : List Ar) (env1 : Env), evalArgs C es (C.sig f) env = .ok as env1 → PG X.K FA CA W w σ F (okE X.K FA w (pureX (.callv i es)) σ F H ts Q) (doCall C true f env env1 as) →
            okAr X.K FA w (pureXs es) σ F H ts (fun vs H1 => spG X.K FA CA (C.sig f) (C.call f) vs H1 Q (WE W σ)) as env1 := fun as env1 _ z vs H1 F1 hl1 ra s1 sF1 p1 =>
          call_ok hl hl1 s0 s1 sF1 (fun e => p1 hq) (fun e => rfl) ra (Post.pg.mpr z)
        refine wpAny_Call_Name_kw (thn ((pe_slot (pos := p) r hv).run pins s σ H (fun v H1 => v = .ref a ∧ H1 = H) I ⟨.ref a, e1, rfl, rfl⟩) fun u s1 ⟨v, H1, I1, r1, q1⟩ => ?_)
        obtain ⟨rfl, rfl⟩ := q1
        cases r1
        cases us with
        | nil =>
          cases es with
          | nil =>
            have z := post.imp go
            unfold evalArgs at z
            split at z
            · have z := z [] _ F hl .nil s0 (Sub.refl _) fun _ => Sub.refl _
              exact PySem.W.callWith_K0 I1.kIn h3 (run_sp (us := []) c ea I1 .nil z)
            · exact z.elim
          | cons e es => simp [isEs] at hi
        | cons u us =>
          cases es with
          | nil => simp [isEs] at hi
          | cons e es =>
            have hi' : isE Nm X.N e sc u = true ∧ isEs Nm X.N es sc us = true := by simpa [isEs] using hi
            exact PySem.W.callWith_K (h₀ := X.base) I1.ok.mod.kin h3 (thn ((ha (C.sig f)).run pos pins s1 σ _ _ I1 ⟨F, ts, env, hl, s0, post.imp go⟩) fun us s2 ⟨vs, H2, I2, r, q⟩ => ⟨I2.kIn, run_sp c ea I2 r q⟩) (star_cons hi'.1) (star_any hi'.2)
    | .z (.clo f ds), eg, post =>
      obtain ⟨v, e1, rp⟩ := s0.slotRep hl eg
      cases rp with
      | @clo _ a cc L pm ctv m1 m2 m3 =>
        obtain ⟨n, ps, hr, hb, hF⟩ := c.lam f L m1
        have post : Post X.K FA CA W w (pureX (.callv i es)) σ F H ts Q ((evalArgs C es (C.sig f) env).bind fun as env1 => doCall C true f env env1 as) := post
        rw [Post.pg, PG.bind] at post
        have go : ∀ (as : List Ar) (env1 : Env), evalArgs C es (C.sig f) env = .ok as env1 → PG X.K FA CA W w σ F (okE X.K FA w (pureX (.callv i es)) σ F H ts Q) (doCall C true f env env1 as) →
            okAr X.K FA w (pureXs es) σ F H ts (fun vs H1 => spK X.K FA CA (C.sig f) (C.call f) a cc L pm ctv vs H1 Q (WE W σ)) as env1 := fun as env1 _ z vs H1 F1 hl1 ra s1 sF1 p1 =>
          ⟨s1.1.sub _ _ (sF1 _ _ m2), s1.1.sub _ _ (sF1 _ _ m3), call_ok hl hl1 s0 s1 sF1 (fun e => p1 hq) (fun e => rfl) ra (Post.pg.mpr z)⟩
        have run : ∀ {s1 : Shared} {H1 : Hp} {us : List Value} {vs : List V}, Inv X pins σ H1 s1 → Vals vs us → spK X.K FA CA (C.sig f) (C.call f) a cc L pm ctv vs H1 Q (WE W σ) → wpAny (model X.prog X.w) X.A (call (.ref a) us) (EP X pins σ Q) X.xe s1 := fun I1 r z =>
          run_g c.gd (hF a cc pm ctv) hr (Binds.all (hb cc pm ctv)) (fun e s' q => passAt c.takes σ pins _ _ e s' I1 q) I1 r z
        have at_ : ∀ {s1 : Shared} {H1 : Hp}, Inv X pins σ H1 s1 → H1 a = some (LamO a cc L pm ctv) → PySem.W.FnAt a s1.heap := fun I1 e => by
          obtain ⟨⟨od, sl, ho⟩, _, _⟩ := I1.hok a _ e
          exact ⟨_, od, _, sl, ho⟩
        refine wpAny_Call_Name_kw (thn ((pe_slot (pos := p) r hv).run pins s σ H (fun v H1 => v = .ref a ∧ H1 = H) I ⟨.ref a, e1, rfl, rfl⟩) fun u s1 ⟨v, H1, I1, r1, q1⟩ => ?_)
        obtain ⟨rfl, rfl⟩ := q1
        cases r1
        cases us with
        | nil =>
          cases es with
          | nil =>
            have z := post.imp go
            unfold evalArgs at z
            split at z
            · have z := z [] _ F hl .nil s0 (Sub.refl _) fun _ => Sub.refl _
              exact PySem.W.callWith_F0 (at_ I1 z.1) (run (us := []) I1 .nil z)
            · exact z.elim
          | cons e es => simp [isEs] at hi
        | cons u us =>
          cases es with
          | nil => simp [isEs] at hi
          | cons e es =>
            have hi' : isE Nm X.N e sc u = true ∧ isEs Nm X.N es sc us = true := by simpa [isEs] using hi
            exact PySem.W.callWith_F (first := []) (at_ I1 (s0.1.sub _ _ m2)) (thn ((ha (C.sig f)).run pos pins s1 σ _ _ I1 ⟨F, ts, env, hl, s0, post.imp go⟩) fun us s2 ⟨vs, H2, I2, r, q⟩ => ⟨at_ I2 q.1, run I2 r q⟩) (star_cons hi'.1) (star_any hi'.2)
    | .z .non, eg, post => exact post.elim
    | .z (.bl _), eg, post => exact post.elim
    | .z (.int _), eg, post => exact post.elim
    | .z (.str _), eg, post => exact post.elim
    | .z (.lst _), eg, post => exact post.elim
    | .z (.tup _), eg, post => exact post.elim
    | .z (.scr _), eg, post => exact post.elim
    | .z (.obj _ _), eg, post => exact post.elim
    | .z (.exc _ _), eg, post => exact post.elim
    | .l _, eg, post => exact post.elim
    | .t _, eg, post => exact post.elim
theorem perm_abc {α : Type} {A B D : List α} : (A ++ (B ++ D)).Perm (B ++ (A ++ D)) := by
  rw [← List.append_assoc, ← List.append_assoc]
  exact List.perm_append_comm.append_right D
theorem PG.rebaseE {α : Type} {r : R α} {P P' : α → Env → Prop} (h : PG X.K FA CA W w σ F P r) (sF : Sub F F1) (i : ∀ a env, r = .ok a env → P a env → P' a env) : PG X.K FA CA W w σ F1 P' r := by
  cases r with
  | ok a env => exact i a env rfl h
  | ex c ds => exact fun H' F' od a e sf hr x => h H' F' od a e (sF.trans sf) hr x
  | no => exact h
/-! ### keywords -/
def tEs' (K : PySem.W.Frag) (FA : Fns) (CA : Nat → Option Addr) (W : WX) (w : W0) (C : Cfg) (es : Xs) : TA := tEs K FA CA W w C es
theorem kw_all {N : List Str} {env : PySem.Env} {pos : Pos} : ∀ {ks : Xs} {kws : List Keyword}, isKs Nm N ks sc kws = true → (backToKw pos (keywordEach kws env)).all (·.1.isSome) = true ∧ (backToKw pos (keywordEach kws env)).any (·.1.isNone) = false ∧ (backToKw pos (keywordEach kws env)).filterMap (·.1) = kwNames kws ∧ xsLen ks = (kwNames kws).length
  | .nil, [], _ => ⟨rfl, rfl, rfl, rfl⟩
  | .nil, _ :: _, h => by simp [isKs] at h
  | .cons _ _, [], h => by simp [isKs] at h
  | .cons e es, ⟨.none, u, kp⟩ :: us, h => by simp [isKs] at h
  | .cons e es, ⟨.some n, u, kp⟩ :: us, h => by
    have h' : isE Nm N e sc u = true ∧ isKs Nm N es sc us = true := by simpa [isKs] using h
    obtain ⟨h1, h2, h3, h4⟩ := kw_all (env := env) (pos := pos) h'.2
    refine ⟨?_, ?_, ?_, ?_⟩
    · show (true && (backToKw pos (keywordEach us env)).all (·.1.isSome)) = true
      rw [h1]; rfl
    · show (false || (backToKw pos (keywordEach us env)).any (·.1.isNone)) = false
      rw [h2]; rfl
    · show n :: (backToKw pos (keywordEach us env)).filterMap (·.1) = n :: kwNames us
      rw [h3]
    · show xsLen es + 1 = (kwNames us).length + 1
      rw [h4]
theorem PK.imp {e : List Keyword} {t t' : TA} (h : PK X e t) (i : ∀ σ H Q, t' σ H Q → t σ H Q) : PK X e t' := ⟨fun pos pins s σ H Q I q => h.run pos pins s σ H Q I (i _ _ _ q)⟩
theorem c_knil : PK X [] (tEs X.K FA CA W w C .nil) := PK.imp pk_nil fun σ H Q ⟨F, ts, env, hl, s, post⟩ => post [] H F hl rfl s (Sub.refl _) fun _ => ⟨Sub.refl _, [], .nil, fun _ m => nomatch m⟩
theorem c_kcons {e : RF.X} {es : Xs} {u : Expr} {us : List Keyword} {n : Option Str} {kp : Pos} (he : PE X u (tE X.K FA CA W w C e)) (hs : PK X us (tEs X.K FA CA W w C es)) : PK X (⟨n, u, kp⟩ :: us) (tEs X.K FA CA W w C (.cons e es)) := by
  refine PK.imp (pk_cons he hs) fun σ H Q ⟨F, ts, env, hl, s, post⟩ => ⟨F, ts, env, hl, s, ?_⟩
  unfold evalEs at post
  refine bindG post fun o env1 v H1 F1 _ hl1 s1 sF1 p1 post => ⟨F1, (some v, o) :: ts, env1, hl1, s1.toTemp, ?_⟩
  rw [PG.bind] at post
  refine post.rebase sF1 fun os env2 q vs H2 F2 hl2 hv s2 sF2 p2 => ?_
  have s3 : Hs X.K FA w F2 H2 ((some v, o) :: ((vs.map some).zip os ++ (lv σ env2 ++ ts))) := by
    rw [← List.append_assoc] at s2
    have := s2.ofTemp
    rwa [List.append_assoc] at this
  refine q (v :: vs) H2 F2 hl2 (by simp [hv]) s3 (sF1.trans sF2) fun z => ?_
  have z' := Bool.and_eq_true_iff.mp (show (pureX e && pureXs es) = true from z)
  obtain ⟨a1, a2⟩ := p1 z'.1
  obtain ⟨b1, B, b2, b3⟩ := p2 z'.2
  obtain ⟨A, a3, a4⟩ := a2.mono sF2 b1
  refine ⟨a1.trans b1, A ++ B, .cons a3 b2, fun a m => ?_⟩
  rcases List.mem_append.mp m with m | m
  · exact a4 a m
  · cases e : H a with
    | none => rfl
    | some x => rw [← a1 _ _ e, b3 a m]
/-- several values stand for good from now on -/
theorem Hs.freezeAll {K : PySem.W.Frag} : ∀ {os : List O} {vs : List V} {F : Hp} {ps : List (Option V × O)}, vs.length = os.length → Hs K FA w F H ((vs.map some).zip os ++ ps) → ∃ F', Sub F F' ∧ Hs K FA w F' H ps ∧ Reps K FA F' vs (O.toDs os)
  | [], [], F, ps, _, s => ⟨F, Sub.refl _, s, by simp only [O.toDs]; exact .nil⟩
  | o :: os, v :: vs, F, ps, e, s => by
    obtain ⟨F1, sF1, s1⟩ := Hs.freeze s
    have r1 := s1.rep
    obtain ⟨F2, sF2, s2, r2⟩ := Hs.freezeAll (by simpa using e) s1.tail
    exact ⟨F2, sF1.trans sF2, s2, by simp only [O.toDs]; exact .cons (r1.mono sF2) r2⟩
  | [], _ :: _, _, _, e, _ => by simp at e
  | _ :: _, [], _, _, e, _ => by simp at e
theorem args_perm {K : PySem.W.Frag} {us : List O} {vs : List V} (r : Reps K FA F vs (O.toDs us)) : ∀ perm : List Nat, ArgsR K FA F σ (perm.map fun j => vs.getD j .non) (perm.map fun j => .val (us.getD j (.z .non)).toD)
  | [] => .nil
  | j :: js => by
    refine .val ?_ (args_perm r js)
    show Rep K FA F (vs.getD j .non) (us.getD j (.z .non)).toD
    rw [O.toDs_map] at r
    cases e : us[j]? with
    | none =>
      have e1 : vs[j]? = none := by
        have hl := r.length
        rw [List.length_map] at hl
        rw [List.getElem?_eq_none_iff] at e ⊢
        omega
      rw [List.getD_eq_getElem?_getD, List.getD_eq_getElem?_getD, e, e1]
      exact .non
    | some o =>
      obtain ⟨v, e1, rv⟩ := r.get (i := j) (d := o.toD) (by rw [List.getElem?_map, e]; rfl)
      rw [List.getD_eq_getElem?_getD, List.getD_eq_getElem?_getD, e, e1]
      exact rv
theorem getD_vals : ∀ {vs : List V} {us : List Value} (j : Nat), Vals vs us → RelV (vs.getD j .non) (us.getD j .none)
  | [], [], j, .nil => by cases j <;> rfl
  | _ :: _, _ :: _, 0, .cons r _ => r
  | _ :: _, _ :: _, j + 1, .cons _ t => getD_vals j t
theorem vals_perm {vs : List V} {us : List Value} (h : Vals vs us) : ∀ perm : List Nat, Vals (perm.map fun j => vs.getD j .non) (perm.map fun j => us.getD j .none)
  | [] => .nil
  | j :: js => .cons (getD_vals j h) (vals_perm h js)
theorem c_callk {f : Nat} {es ks : Xs} {perm : List Nat} {x : Str} {us : List Expr} {kws : List Keyword} {p pos : Pos} (c : Cok Nm FA CA C X W) (r : ScR X sc) (hf : Nm.fn f = some x) (hg : glB sc x = true) (hi : isEs Nm X.N es sc us = true) (hk : isKs Nm X.N ks sc kws = true)
    (hq : pureXs es = true) (hq2 : pureXs ks = true) (hkw : (f, us.length, kwNames kws, perm) ∈ Nm.kw) (hz : xsLen es = us.length)
    (ha : PA X us (tEs X.K FA CA W w C es)) (hb : PK X kws (tEs X.K FA CA W w C ks)) : PE X (.Call (.Name x p) us kws pos) (tE X.K FA CA W w C (.callk f es ks perm)) := by
  refine ⟨fun pins s σ H Q I h => ?_⟩
  obtain ⟨F, ts, env, hl, s0, post⟩ := h
  obtain ⟨a, ea⟩ := c.has f x hf
  obtain ⟨x', k, fd, h1, h2, h3, h4, h5, h6, h7⟩ := c.fns f a ea
  obtain rfl : x' = x := Option.some.inj (h1.symm.trans hf)
  obtain ⟨g1, g2⟩ := glB_ok r hg
  obtain ⟨k1, k2, k3, k4⟩ := kw_all (Nm := Nm) (sc := sc) (env := X.env) (pos := pos) hk
  unfold evalE at post
  rw [Post.pg, PG.bind] at post
  -- the end
  have fin : ∀ (os us' : List O) (env1 env2 : Env) (vs zs : List V) (H1 F1 : Hp), os.length = us.length → us'.length = (kwNames kws).length → PG X.K FA CA W w σ F (okE X.K FA w (pureX (.callk f es ks perm)) σ F H ts Q) (doCall C true f env env2 (permA os us' perm)) →
      env2.length = σ.length → vs.length = os.length → zs.length = us'.length → Hs X.K FA w F1 H1 ((zs.map some).zip us' ++ ((vs.map some).zip os ++ (lv σ env2 ++ ts))) → Sub F F1 → Sub H H1 →
      spG X.K FA CA (C.sig f) (C.call f) (perm.map fun j => (vs ++ zs).getD j .non) H1 Q (WE W σ) := fun os us' env1 env2 vs zs H1 F1 e1 e2 z hl2 hv hzl s1 sF sH => by
    have s2 : Hs X.K FA w F1 H1 (((vs ++ zs).map some).zip (os ++ us') ++ (lv σ env2 ++ ts)) := by
      rw [List.map_append, List.zip_append (by simp [hv]), List.append_assoc]
      exact s1.perm perm_abc
    obtain ⟨F2, sF2, s3, r3⟩ := Hs.freezeAll (by simp [hv, hzl]) s2
    exact call_ok hl hl2 s0 s3 (sF.trans sF2) (fun _ => sH) (fun _ => rfl) (args_perm r3 perm) (Post.pg.mpr z)
  have run : ∀ {s1 : Shared} {H1 : Hp} {us1 ws1 : List Value} {vs zs : List V}, Inv X pins σ H1 s1 → Vals vs us1 → Vals zs ws1 → us1.length = us.length → ws1.length = (kwNames kws).length → spG X.K FA CA (C.sig f) (C.call f) (perm.map fun j => (vs ++ zs).getD j .non) H1 Q (WE W σ) →
      wpAny (model X.prog X.w) X.A (call (.ref a) us1 ((kwNames kws).zip ws1)) (EP X pins σ Q) X.xe s1 := fun {s1 H1 us1 ws1 vs zs} I1 r1 r2 e1 e2 z => by
    have rr := vals_perm (r1.append r2) perm
    refine wpAny_call (codeAny_mono (h6.run X.A X.stack s1 H1 ⟨us1, (kwNames kws).zip ws1⟩ (permL .none us1 ws1 perm) (perm.map fun j => (vs ++ zs).getD j .non) Q (WE W σ) h5 c.gd I1.env0 (h7 _ _ _ hkw s1 us1 ws1 I1.kIn e1 e2) rr z) fun r s' hq => ?_)
    cases r with
    | error e => exact passAt c.takes σ pins H1 s1 e s' I1 hq
    | ok fl =>
      cases fl with
      | ret u => exact I1.after hq
      | next => exact False.elim hq
      | brk => exact False.elim hq
      | cont => exact False.elim hq
  refine wpAny_Call_Name_kw (ld_glob I g1 h2 ?_ g2)
  cases us with
  | nil =>
    cases es with
    | cons e es => simp [isEs] at hi
    | nil =>
      have post : PG X.K FA CA W w σ F _ ((evalEs C ks env).bind fun us env2 => doCall C true f env env2 (permA [] us perm)) := post
      rw [PG.bind] at post
      refine PySem.W.callWith_KW0 (h₀ := X.base) I.ok.mod.kin h3 k1 (thn (hb.run pos pins s σ H (fun zs H1 => spG X.K FA CA (C.sig f) (C.call f) (perm.map fun j => ([] ++ zs).getD j .non) H1 Q (WE W σ) ∧ zs.length = (kwNames kws).length) I ⟨F, ts, env, hl, s0, post.imp fun us' env2 e z zs H1 F1 hl2 hzl s1 sF p1 =>
        have e2 : us'.length = (kwNames kws).length := (evalEs_len e).trans k4
        ⟨fin [] us' env env2 [] zs H1 F1 rfl e2 z hl2 rfl hzl s1 sF (p1 hq2).1, by rw [hzl, e2]⟩⟩) fun ws s2 ⟨zs, H2, I2, rz, q2, ql⟩ => ⟨I2.kIn, ?_⟩) (by rw [k2]; rfl)
      rw [k3]
      exact run (us1 := []) I2 .nil rz rfl (by rw [← rz.length]; exact ql) q2
  | cons u us =>
    cases es with
    | nil => simp [isEs] at hi
    | cons e es =>
      have hi' : isE Nm X.N e sc u = true ∧ isEs Nm X.N es sc us = true := by simpa [isEs] using hi
      refine PySem.W.callWith_KW (h₀ := X.base) I.ok.mod.kin h3 k1 (thn (ha.run pos pins s σ H (fun vs H1 => vs.length = (u :: us).length ∧ tEs X.K FA CA W w C ks σ H1 (fun zs H2 => spG X.K FA CA (C.sig f) (C.call f) (perm.map fun j => (vs ++ zs).getD j .non) H2 Q (WE W σ) ∧ zs.length = (kwNames kws).length)) I ⟨F, ts, env, hl, s0, post.imp fun os env1 e z vs H1 F1 hl1 hv s1 sF1 p1 => ?_⟩) fun us1 s1 ⟨vs, H1, I1, r1, ql, q⟩ => ?_) ?_ (star_cons hi'.1)
      · have e1 : os.length = (u :: us).length := (evalEs_len e).trans hz
        refine ⟨by rw [hv, e1], F1, (vs.map some).zip os ++ ts, env1, hl1, ?_, ?_⟩
        · exact s1.perm perm_abc
        · rw [PG.bind] at z
          refine z.rebaseE sF1 fun us' env2 e z => ?_
          refine fun zs H2 F2 hl2 hzl s2 sF2 p2 => ?_
          have e2 : us'.length = (kwNames kws).length := (evalEs_len e).trans k4
          have s3 : Hs X.K FA w F2 H2 ((zs.map some).zip us' ++ ((vs.map some).zip os ++ (lv σ env2 ++ ts))) := s2.perm (perm_abc.append_left _)
          exact ⟨fin os us' env1 env2 vs zs H2 F2 e1 e2 z hl2 hv hzl s3 (sF1.trans sF2) ((p1 hq).1.trans (p2 hq2).1), by rw [hzl, e2]⟩
      · refine thn (hb.run pos pins s1 σ H1 _ I1 q) fun ws s2 ⟨zs, H2, I2, rz, q2, ql2⟩ => ⟨I2.kIn, ?_⟩
        rw [k3]
        exact run I2 r1 rz (by show us1.length = _; rw [← r1.length]; exact ql) (by rw [← rz.length]; exact ql2) q2
      · rw [k2, Bool.or_false]
        rw [star_cons hi'.1]
        show (false || (backTo pos (starEach us X.env)).any (·.1)) = false
        rw [star_any hi'.2]; rfl
end
end RF
/-! RFl: isinstance; targets; what loops walk. -/
namespace RF
open L2 PySem PySem.Spec PyProof.Rows
section
variable {Nm : Names} {FA : Fns} {CA : Nat → Option Addr} {C : Cfg} {X : Cx} {W : WX} {w : W0} {sc : Scope}
variable {σ : L2.St} {F F' F1 H H' H1 : Hp} {ts : List (Option V × O)} {Q Q1 : VK} {pu pu1 fl : Bool}
/-! ### isinstance -/
theorem pe_ty (c : Cok Nm FA CA C X W) (r : ScR X sc) {y : Str} {n : String} {pos : Pos} (hy : y ∈ bltNames) (hg : glB sc y = true) (hv : bootBuiltins y = some (.type n)) (hn : y ≠ "__name__") : PE X (.Name y pos) (tC (.ty n)) := by
  obtain ⟨g1, g2⟩ := glB_ok r hg
  exact pe_bltn g1 (c.blt _ hy) hv rfl hn g2
theorem tyIs_lt {cl : Expr} (ht : tyIs .lt cl sc = true) : ∃ y1 p1 y2 p2 k p, cl = .Tuple [.Name y1 p1, .Name y2 p2] k p ∧ (y1 == "list" && glB sc y1 && y2 == "tuple" && glB sc y2) = true := by
  cases cl with
  | Tuple es k p =>
    rcases es with _ | ⟨e1, _ | ⟨e2, _ | ⟨e3, es⟩⟩⟩
    · simp [tyIs] at ht
    · cases e1 <;> simp [tyIs] at ht
    · cases e1 <;> first | (simp [tyIs] at ht; done) | skip
      cases e2 <;> first | (simp [tyIs] at ht; done) | skip
      exact ⟨_, _, _, _, _, _, rfl, ht⟩
    · cases e1 <;> simp [tyIs] at ht
  | _ => simp [tyIs] at ht
theorem c_isi {t : Ty} {a : RF.X} {x : Str} {u cl : Expr} {p pos : Pos} (c : Cok Nm FA CA C X W) (r : ScR X sc) (hx : (x == "isinstance") = true) (hg : glB sc x = true) (hi : isE Nm X.N a sc u = true) (ht : tyIs t cl sc = true)
    (ha : PE X u (tV X.K FA CA W w C true a)) : PE X (.Call (.Name x p) [u, cl] [] pos) (tE X.K FA CA W w C (.isi t a)) := by
  obtain rfl : x = "isinstance" := by simpa using hx
  obtain ⟨g1, g2⟩ := glB_ok r hg
  have k : ∀ {x y : Str}, (x == y) = true → x = y := fun h => by simpa using h
  have one : ∀ {n : String} {y : Str} {py : Pos}, cl = .Name y py → t ≠ .lt → tyStr t = n → PE X (.Name y py) (tC (.ty n)) → PE X (.Call (.Name "isinstance" p) [u, cl] [] pos) (tE X.K FA CA W w C (.isi t a)) := fun {n y py} e1 e2 e3 h => by
    subst e1
    refine PE.imp (pe_callB call_isi g1 (c.blt _ (by decide)) boot_isinstance (pa_cons ha (pa_cons h pa_nil) (star_cons hi)) (he := star_cons hi)) fun σ H Q ⟨F, ts, env, hl, s, post⟩ => ⟨F, ts, env, hl, s, ?_⟩
    unfold evalE at post
    refine bindV post fun d env1 v H1 F1 _ hl1 s1 rv rf sF1 p1 post => ?_
    have post := post.rebase sF1 fun z => p1 z
    cases e : isiV t d with
    | none => rw [e] at post; exact post.elim
    | some b =>
      rw [e] at post
      exact ⟨v, .ty n, _, _, b, rfl, .ty n, rv.ty s1.1.sub (isi_some e), by rw [← e3]; exact isi_kit e2 e, post.z hl1 s1 (.bl b)⟩
  cases t with
  | lt =>
    obtain ⟨y1, p1, y2, p2, k1, p3, rfl, htt⟩ := tyIs_lt ht
    obtain ⟨⟨⟨t1, t2⟩, t3⟩, t4⟩ : (((y1 == "list") = true ∧ glB sc y1 = true) ∧ (y2 == "tuple") = true) ∧ glB sc y2 = true := by
      rw [Bool.and_eq_true, Bool.and_eq_true, Bool.and_eq_true] at htt
      exact htt
    obtain rfl := k t1
    obtain rfl := k t3
    have h1 : PE X (.Name "list" p1) (tC (.ty "list")) := pe_ty c r (by decide) t2 (by decide +kernel) (by decide)
    have h2 : PE X (.Name "tuple" p2) (tC (.ty "tuple")) := pe_ty c r (by decide) t4 (by decide +kernel) (by decide)
    refine PE.imp (pe_callB call_isiT g1 (c.blt _ (by decide)) boot_isinstance (pa_cons ha (pa_cons (pe_tup (pa_cons h1 (pa_cons h2 pa_nil))) pa_nil) (star_cons hi)) (he := star_cons hi)) fun σ H Q ⟨F, ts, env, hl, s, post⟩ => ⟨F, ts, env, hl, s, ?_⟩
    unfold evalE at post
    refine bindV post fun d env1 v H1 F1 _ hl1 s1 rv rf sF1 p1 post => ?_
    have post := post.rebase sF1 fun z => p1 z
    refine ⟨by show 2 ≤ sizeLine; decide, fun q hq => ?_⟩
    cases e : isiV .lt d with
    | none => rw [e] at post; exact post.elim
    | some b =>
      rw [e] at post
      have s2 := s1.allocT (xs := [.ty "list", .ty "tuple"]) hq
      have rv2 := rv.mono (sub_upd (ob := .tup [.ty "list", .ty "tuple"]) (s1.nonew hq)) (sub_upd (ob := .tup [.ty "list", .ty "tuple"]) hq)
      refine ⟨v, q, [.ty "list", .ty "tuple"], _, [.type "list", .type "tuple"], b, rfl, upd_same, .cons (.ty _) (.cons (.ty _) .nil), rv2.ty s2.1.sub (isi_some e), isi_kit2 e, ?_⟩
      exact post (.bl b) _ _ hl1 (s2.add (.bl b)) (sub_upd (s1.nonew hq)) fun _ => ⟨sub_upd hq, Fresh.z (.bl b)⟩
  | int =>
    cases cl with
    | Name y py =>
      have ht : (y == "int" && glB sc y) = true := ht
      simp only [Bool.and_eq_true] at ht
      obtain rfl := k ht.1
      exact one rfl (by intro z; cases z) rfl (pe_ty c r (by decide) ht.2 (by decide +kernel) (by decide))
    | _ => simp [tyIs] at ht
  | bool =>
    cases cl with
    | Name y py =>
      have ht : (y == "bool" && glB sc y) = true := ht
      simp only [Bool.and_eq_true] at ht
      obtain rfl := k ht.1
      exact one rfl (by intro z; cases z) rfl (pe_ty c r (by decide) ht.2 (by decide +kernel) (by decide))
    | _ => simp [tyIs] at ht
  | str =>
    cases cl with
    | Name y py =>
      have ht : (y == "str" && glB sc y) = true := ht
      simp only [Bool.and_eq_true] at ht
      obtain rfl := k ht.1
      exact one rfl (by intro z; cases z) rfl (pe_ty c r (by decide) ht.2 (by decide +kernel) (by decide))
    | _ => simp [tyIs] at ht
  | list =>
    cases cl with
    | Name y py =>
      have ht : (y == "list" && glB sc y) = true := ht
      simp only [Bool.and_eq_true] at ht
      obtain rfl := k ht.1
      exact one rfl (by intro z; cases z) rfl (pe_ty c r (by decide) ht.2 (by decide +kernel) (by decide))
    | _ => simp [tyIs] at ht
  | tuple =>
    cases cl with
    | Name y py =>
      have ht : (y == "tuple" && glB sc y) = true := ht
      simp only [Bool.and_eq_true] at ht
      obtain rfl := k ht.1
      exact one rfl (by intro z; cases z) rfl (pe_ty c r (by decide) ht.2 (by decide +kernel) (by decide))
    | _ => simp [tyIs] at ht
theorem c_bits {a : RF.X} {x m : Str} {px p pos : Pos} (hm : (m == "bit_length") = true) (hl : (p.endLine == pos.line) = true) (ha : PE X (.Name x px) (tE X.K FA CA W w C a)) : PE X (.Call (.Attribute (.Name x px) m p) [] [] pos) (tE X.K FA CA W w C (.bits a)) := by
  obtain rfl : m = "bit_length" := by simpa using hm
  refine PE.imp (pe_bits ha (by rfl) hl) fun σ H Q ⟨F, ts, env, hl, s, post⟩ => ⟨F, ts, env, hl, s, ?_⟩
  unfold evalE at post
  refine bindE post fun o env1 v H1 F1 _ hl1 s1 sF1 p1 post => ?_
  have post := post.rebase sF1 fun z => (p1 z).1
  split at post
  · obtain rfl := RepV.int (.rep s1.rep : RepV X.K FA F1 H1 v _)
    exact ⟨_, rfl, post.z hl1 s1.tail (.int _)⟩
  · exact post.elim
/-! ### targets -/
/-- nothing but these slots differs -/
def Beside (is : List Nat) (σ σ' : L2.St) : Prop := σ'.length = σ.length ∧ ∀ i, i ∉ is → σ'[i]? = σ[i]?
def tTg (K : PySem.W.Frag) (FA : Fns) (w : W0) (t : Tg) : TG := fun v σ H Q => ∃ F ts env o, env.length = σ.length ∧ Hs K FA w F H ((some v, o) :: (lv σ env ++ ts)) ∧
  ∃ env', tgE t o env = some env' ∧ ∀ σ', Beside (tgSlots t) σ σ' → env'.length = σ'.length → Hs K FA w F H (lv σ' env' ++ ts) → Q σ' H
theorem PG.impT {e : Expr} {t t' : TG} (h : L2.PG X e t) (i : ∀ v σ H Q, t' v σ H Q → t v σ H Q) : L2.PG X e t' := ⟨fun pins s σ H v u Q I r q => h.run pins s σ H v u Q I r (i _ _ _ _ q)⟩
theorem locB_ok (r : ScR X sc) {i : Nat} {x : Str} (h : locB X.N sc i x = true) : X.N[i]? = some x ∧ Loc X.env.scope x ∧ (X.fn x = true ∨ X.env.scope.names.lookup x = some .local) := by
  unfold locB at h
  simp only [Bool.and_eq_true, Bool.or_eq_true, decide_eq_true_eq] at h
  obtain ⟨h1, h2⟩ := h
  rcases h2 with h2 | h2
  · exact ⟨h1, .inl (r.loc x h2), .inr (r.loc x h2)⟩
  · exact ⟨h1, .inr (r.cell x h2).1, .inl (r.cell x h2).2⟩
theorem pg_slot (c : X.N.Nodup) (r : ScR X sc) {i : Nat} {x : Str} {pos : Pos} (h : locB X.N sc i x = true) : L2.PG X (.Name x pos) (gName i) := by
  obtain ⟨h1, h2, h3⟩ := locB_ok r h
  exact pg_name c h1 h2 h3
theorem beside_set {i : Nat} {w' : Option V} (σ : L2.St) : Beside [i] σ (σ.set i w') := ⟨List.length_set, fun j h => by
  rw [List.getElem?_set_ne (fun e => h (by rw [e]; exact List.mem_singleton.mpr rfl))]⟩
theorem Beside.trans {is js : List Nat} {σ σ1 σ2 : L2.St} (a : Beside is σ σ1) (b : Beside js σ1 σ2) : Beside (is ++ js) σ σ2 :=
  ⟨b.1.trans a.1, fun i h => (b.2 i fun z => h (List.mem_append_right _ z)).trans (a.2 i fun z => h (List.mem_append_left _ z))⟩
theorem isE_lt {N : List Str} {i : Nat} {x : Str} (h : N[i]? = some x) : i < N.length := (List.getElem?_eq_some_iff.mp h).1
/-- a state's slots are as many as the names -/
def tTg' (K : PySem.W.Frag) (FA : Fns) (w : W0) (n : Nat) (t : Tg) : TG := fun v σ H Q => σ.length = n ∧ tTg K FA w t v σ H Q
theorem c_tgN (c : X.N.Nodup) (r : ScR X sc) {i : Nat} {x : Str} {pos : Pos} (h : locB X.N sc i x = true) : L2.PG X (.Name x pos) (tTg' X.K FA w X.N.length (.nm i)) := by
  refine PG.impT (pg_slot c r h) fun v σ H Q ⟨hn, F, ts, env, o, hl, s, env', e, q⟩ => ?_
  cases (show some (env.set i (some o)) = some env' from e)
  have hi : i < σ.length := by rw [hn]; exact isE_lt (locB_ok r h).1
  exact q _ (beside_set σ) (by simp [hl]) (Hs.store hl hi s)
/-- several targets, several values -/
def tTgs (K : PySem.W.Frag) (FA : Fns) (w : W0) (n : Nat) (is : List Nat) : TGs := fun vs σ H Q => σ.length = n ∧ ∃ F ts env os, env.length = σ.length ∧ vs.length = os.length ∧ Hs K FA w F H ((vs.map some).zip os ++ (lv σ env ++ ts)) ∧
  ∃ env', setAll env is os = some env' ∧ ∀ σ', Beside is σ σ' → env'.length = σ'.length → Hs K FA w F H (lv σ' env' ++ ts) → Q σ' H
theorem PGs.impT {e : List Expr} {t t' : TGs} (h : L2.PGs X e t) (i : ∀ v σ H Q, t' v σ H Q → t v σ H Q) : L2.PGs X e t' := ⟨fun pins s σ H v u Q I r q => h.run pins s σ H v u Q I r (i _ _ _ _ q)⟩
theorem c_tgs (c : X.N.Nodup) (r : ScR X sc) : ∀ {is : List Nat} {es : List Expr}, tgIs.go X.N sc is es = true → L2.PGs X es (tTgs X.K FA w X.N.length is) ∧ (assignEach es X.env).length = is.length ∧ (assignEach es X.env).findIdx? (·.1) = none
  | [], [], _ => ⟨PGs.impT pgs_nil fun vs σ H Q ⟨hn, F, ts, env, os, hl, hv, s, env', e, q⟩ => (by
      cases os with
      | nil =>
        have : vs = [] := by simpa using hv
        subst this
        cases (show some env = some env' from e)
        exact ⟨rfl, q σ ⟨rfl, fun _ _ => rfl⟩ hl s⟩
      | cons o os => cases e), rfl, rfl⟩
  | [], _ :: _, h => by simp [tgIs.go] at h
  | _ :: _, [], h => by simp [tgIs.go] at h
  | i :: is, e :: es, h => by
    cases e with
    | Name x pos =>
      have h' : locB X.N sc i x = true ∧ tgIs.go X.N sc is es = true := by simpa [tgIs.go] using h
      obtain ⟨h1, h2, h3⟩ := c_tgs c r h'.2
      refine ⟨PGs.impT (pgs_cons (pg_slot c r h'.1) h1) fun vs σ H Q ⟨hn, F, ts, env, os, hl, hv, s, env', e, q⟩ => ?_, ?_, ?_⟩
      · cases os with
        | nil => cases e
        | cons o os =>
          cases vs with
          | nil => simp at hv
          | cons v vs =>
            have hi : i < σ.length := by rw [hn]; exact isE_lt (locB_ok r h'.1).1
            refine ⟨v, vs, rfl, by simpa using hn, F, ts, env.set i (some o), os, by simp [hl], by simpa using hv, ?_, env', e, fun σ' b1 b2 b3 => q σ' ?_ b2 b3⟩
            · have s1 : Hs X.K FA w F H ((some v, o) :: (lv σ env ++ ((vs.map some).zip os ++ ts))) := by
                refine s.perm (List.Perm.cons _ ?_)
                exact perm_abc
              have s2 := Hs.store hl hi s1
              exact s2.perm perm_abc
            · have := (beside_set (i := i) (w' := some v) σ).trans b1
              exact this
      · show (assignEach es X.env).length + 1 = is.length + 1
        rw [h2]
      · show List.findIdx? (·.1) ((false, assign (.Name x pos) X.env) :: assignEach es X.env) = none
        rw [List.findIdx?_cons, h3]
        rfl
    | _ => simp [tgIs.go] at h
theorem items_ok {K : PySem.W.Frag} {v : V} {o : O} {os : List O} {ps : List (Option V × O)} (s : Hs K FA w F H ((some v, o) :: ps)) (e : items? o = some os) : ∃ a vs, v = .ref a ∧ SqT K H a vs ∧ vs.length = os.length ∧ Hs K FA w F H ((vs.map some).zip os ++ ps) := by
  unfold items? at e
  split at e
  · cases e
    have rp := s.rep
    cases rp with
    | tup h r =>
      refine ⟨_, _, rfl, .of (s.1.sub _ _ h), by rw [List.length_map]; exact r.length, ?_⟩
      obtain ⟨hr, A, rA, nd, q⟩ := s.tail
      exact ⟨hr, A, RepL.of_os (A := []) (RepOs.of_reps r) rA, nd, q⟩
  · cases e
    obtain ⟨hr, A, rA, nd, q⟩ := s
    cases rA with
    | cons h1 rB =>
      cases h1 with
      | t h r => exact ⟨_, _, rfl, .of h, r.length, hr, _, RepL.of_os r rB, nd, q⟩
  · cases e
theorem c_tg (c : Cok Nm FA CA C X W) (r : ScR X sc) {t : Tg} {e : Expr} (h : tgIs X.N sc t e = true) : L2.PG X e (tTg' X.K FA w X.N.length t) := by
  cases t with
  | nm i =>
    cases e with
    | Name x pos => exact c_tgN c.nd r (by simpa [tgIs] using h)
    | _ => simp [tgIs] at h
  | tp is =>
    cases e with
    | Tuple es k pos =>
      obtain ⟨h1, h2, h3⟩ := c_tgs (FA := FA) (w := w) c.nd r (show tgIs.go X.N sc is es = true by simpa [tgIs] using h)
      refine PG.impT (pg_tup c.calm h1 h2 h3) fun v σ H Q ⟨hn, F, ts, env, o, hl, s, env', e, q⟩ => ?_
      have e : (items? o).bind (fun os => setAll env is os) = some env' := e
      cases e1 : items? o with
      | none => rw [e1] at e; cases e
      | some os =>
        rw [e1] at e
        obtain ⟨a, vs, rfl, h4, h5, s1⟩ := items_ok s e1
        have hlen : os.length = is.length := setAll_len e
        exact ⟨a, vs, rfl, h4, by rw [h5, hlen], hn, F, ts, env, os, hl, h5, s1, env', e, q⟩
    | _ => simp [tgIs] at h
where
  setAll_len : ∀ {env env' : Env} {is : List Nat} {os : List O}, setAll env is os = some env' → os.length = is.length
    | _, _, [], [], _ => rfl
    | _, _, [], _ :: _, h => by cases h
    | _, _, _ :: _, [], h => by cases h
    | _, _, i :: is, o :: os, h => by
      have := setAll_len (is := is) (os := os) h
      simp [this]
end
end RF
/-! RFm: what loops walk; pops. -/
namespace RF
open L2 PySem PySem.Spec PyProof.Rows
section
variable {Nm : Names} {FA : Fns} {CA : Nat → Option Addr} {C : Cfg} {X : Cx} {W : WX} {w : W0} {sc : Scope}
variable {σ : L2.St} {F F' F1 H H' H1 : Hp} {ts : List (Option V × O)} {Q Q1 : VK} {pu pu1 fl : Bool}
/-! ### what is walked -/
structure WalkOk (K : PySem.W.Frag) (FA : Fns) (w : W0) (J : L2.It) (ds : List D) (F1 : Hp) : Prop where
  go : ∀ k H F, Sub F1 F → Sub F H → k < ds.length → J.go k H
  stop : ∀ k H F, Sub F1 F → Sub F H → ds.length ≤ k → J.stop k H
  yld : ∀ k H x H' F ps d, Sub F1 F → Hs K FA w F H ps → ds[k]? = some d → J.yld k H x H' → ∃ F', Sub F F' ∧ Sub H H' ∧ Hs K FA w F' H' ((some x, .z d) :: ps)
def okIt (K : PySem.W.Frag) (FA : Fns) (w : W0) (pu : Bool) (σ : L2.St) (F H : Hp) (ts : List (Option V × O)) (R : L2.It → Hp → Prop) : List D → Env → Prop := fun ds env' =>
  ∀ J H' F', env'.length = σ.length → Hs K FA w F' H' (lv σ env' ++ ts) → WalkOk K FA w J ds F' → Sub F F' → (pu = true → Sub H H') → R J H'
def tIt (K : PySem.W.Frag) (FA : Fns) (CA : Nat → Option Addr) (W : WX) (w : W0) (C : Cfg) (it : RF.It) : TI := fun σ H R => ∃ F ts env, env.length = σ.length ∧ Hs K FA w F H (lv σ env ++ ts) ∧ RF.PG K FA CA W w σ F (okIt K FA w (pureIt it) σ F H ts R) (evalIt C it env)
theorem PI.imp {tg e : Expr} {t t' : TI} (h : PI X tg e t) (i : ∀ σ H Q, t' σ H Q → t σ H Q) : PI X tg e t' := ⟨fun pins s σ H Q I q => h.run pins s σ H Q I (i _ _ _ q)⟩
theorem walk_list {K : PySem.W.Frag} {a : Addr} {vs : List V} {ds : List D} (e : F a = some (.lst vs)) (r : Reps K FA F vs ds) : WalkOk K FA w (Itl K a) ds F where
  go := fun k H F' s t h => by
    obtain ⟨v, e1, _⟩ := r.get (i := k) (List.getElem?_eq_getElem h)
    exact ⟨vs, v, .of (t _ _ (s _ _ e)), e1⟩
  stop := fun k H F' s t h => ⟨vs, .of (t _ _ (s _ _ e)), by rw [r.length]; exact h⟩
  yld := fun k H x H' F' ps d s hs hd y => by
    obtain ⟨rfl, y⟩ := y
    obtain ⟨v, e1, rv⟩ := r.get hd
    have := y vs (.of (hs.1.sub _ _ (s _ _ e)))
    rw [e1] at this
    cases this
    exact ⟨F', Sub.refl _, Sub.refl _, hs.add (rv.mono s)⟩
theorem walk_tup {K : PySem.W.Frag} {a : Addr} {vs : List V} {ds : List D} (e : F a = some (.tup vs)) (r : Reps K FA F vs ds) : WalkOk K FA w (Itt K a) ds F where
  go := fun k H F' s t h => by
    obtain ⟨v, e1, _⟩ := r.get (i := k) (List.getElem?_eq_getElem h)
    exact ⟨vs, v, .of (t _ _ (s _ _ e)), e1⟩
  stop := fun k H F' s t h => ⟨vs, .of (t _ _ (s _ _ e)), by rw [r.length]; exact h⟩
  yld := fun k H x H' F' ps d s hs hd y => by
    obtain ⟨rfl, y⟩ := y
    obtain ⟨v, e1, rv⟩ := r.get hd
    have := y vs (.of (hs.1.sub _ _ (s _ _ e)))
    rw [e1] at this
    cases this
    exact ⟨F', Sub.refl _, Sub.refl _, hs.add (rv.mono s)⟩
theorem rangeL_len {st : Int} : ∀ (n : Nat) (lo : Int), (rangeL lo st n).length = n
  | 0, _ => rfl
  | n + 1, lo => by simp [rangeL, rangeL_len n]
theorem rangeL_get {st : Int} : ∀ (n k : Nat) (lo : Int), k < n → (rangeL lo st n)[k]? = some (.int (lo + k * st))
  | 0, _, _, h => by omega
  | n + 1, 0, lo, _ => by simp [rangeL]
  | n + 1, k + 1, lo, h => by
    have := rangeL_get (st := st) n k (lo + st) (by omega)
    simp only [rangeL, List.getElem?_cons_succ, this]
    congr 2
    have : ((k + 1 : Nat) : Int) = (k : Int) + 1 := by omega
    rw [this, Int.add_mul, Int.one_mul]; omega
theorem walk_range {K : PySem.W.Frag} {lo : Int} {n : Nat} : WalkOk K FA w (Itr lo n) (rangeL lo 1 n) F where
  go := fun k H F' s t h => by rw [rangeL_len] at h; exact h
  stop := fun k H F' s t h => by rw [rangeL_len] at h; exact h
  yld := fun k H x H' F' ps d s hs hd y => by
    obtain ⟨rfl, rfl⟩ := y
    have hk : k < n := by
      have := (List.getElem?_eq_some_iff.mp hd).1
      rwa [rangeL_len] at this
    rw [rangeL_get n k lo hk] at hd
    cases hd
    refine ⟨F', Sub.refl _, Sub.refl _, hs.add ?_⟩
    rw [Int.mul_one]
    exact .int _
theorem enumL_len : ∀ (ds : List D) (k : Nat), (enumL k ds).length = ds.length
  | [], _ => rfl
  | d :: ds, k => by simp [enumL, enumL_len ds]
theorem enumL_get : ∀ (ds : List D) (j k : Nat) (d : D), ds[j]? = some d → (enumL k ds)[j]? = some (.tup [.int ((k + j : Nat) : Int), d])
  | [], _, _, _, h => by simp at h
  | d :: ds, 0, k, e, h => by simp at h; subst h; simp [enumL]
  | d :: ds, j + 1, k, e, h => by
    have := enumL_get ds j (k + 1) e (by simpa using h)
    simp only [enumL, List.getElem?_cons_succ, this]
    congr 5
    omega
theorem walk_enum {K : PySem.W.Frag} {a : Addr} {vs : List V} {ds : List D} (e : F a = some (.lst vs)) (r : Reps K FA F vs ds) : WalkOk K FA w (Ite K a) (enumL 0 ds) F where
  go := fun k H F' s t h => by
    rw [enumL_len] at h
    obtain ⟨v, e1, _⟩ := r.get (i := k) (List.getElem?_eq_getElem h)
    exact ⟨vs, v, .of (t _ _ (s _ _ e)), e1⟩
  stop := fun k H F' s t h => by
    rw [enumL_len] at h
    exact ⟨vs, .of (t _ _ (s _ _ e)), by rw [r.length]; exact h⟩
  yld := fun k H x H' F' ps d s hs hd y => by
    have hk : k < ds.length := by
      have := (List.getElem?_eq_some_iff.mp hd).1
      rwa [enumL_len] at this
    obtain ⟨v, e1, rv⟩ := r.get (i := k) (List.getElem?_eq_getElem hk)
    rw [enumL_get ds k 0 _ (List.getElem?_eq_getElem hk)] at hd
    cases hd
    obtain ⟨T, z, rfl, hT, rfl, y⟩ := y
    have := y vs (.of (hs.1.sub _ _ (s _ _ e)))
    rw [e1] at this
    cases this
    have s2 := hs.allocT (xs := [.int (k : Nat), v]) hT
    refine ⟨_, sub_upd (hs.nonew hT), sub_upd hT, s2.add (.tup upd_same (.cons ?_ (.cons ((rv.mono s).mono (sub_upd (hs.nonew hT))) .nil)))⟩
    rw [Nat.zero_add]
    exact .int _
theorem c_seq {tg e : Expr} {a : RF.X} (ha : PE X e (tE X.K FA CA W w C a)) : PI X tg e (tIt X.K FA CA W w C (.seq a)) := by
  refine ⟨fun pins s σ H R I ⟨F, ts, env, hl, s0, post⟩ => ?_⟩
  unfold evalIt at post
  cases e1 : evalE C a env with
  | no => rw [e1] at post; exact post.elim
  | ex c ds =>
    rw [e1] at post
    refine (pi_list (tg := tg) ha).run pins s σ H R I ⟨F, ts, env, hl, s0, ?_⟩
    rw [e1]; exact post
  | ok o env1 =>
    rw [e1] at post
    have post : RF.PG X.K FA CA W w σ F (okIt X.K FA w (pureIt (.seq a)) σ F H ts R) (match o.toD with | .lst ds => .ok ds env1 | .tup ds => .ok ds env1 | _ => .no) := post
    split at post
    · rename_i ds ed
      refine (pi_list (tg := tg) ha).run pins s σ H R I ⟨F, ts, env, hl, s0, ?_⟩
      rw [e1]
      intro v H1 F1 hl1 s1 sF1 p1
      obtain ⟨F2, sF2, s2⟩ := s1.freeze
      have rp : Rep X.K FA F2 v o.toD := s2.rep
      rw [ed] at rp
      cases rp with
      | lst h r => exact ⟨_, rfl, ⟨_, .of (s2.1.sub _ _ h)⟩, post _ H1 F2 hl1 s2.tail (walk_list h r) (sF1.trans sF2) fun z => (p1 z).1⟩
    · rename_i ds ed
      refine (pi_tup (tg := tg) ha).run pins s σ H R I ⟨F, ts, env, hl, s0, ?_⟩
      rw [e1]
      intro v H1 F1 hl1 s1 sF1 p1
      obtain ⟨F2, sF2, s2⟩ := s1.freeze
      have rp : Rep X.K FA F2 v o.toD := s2.rep
      rw [ed] at rp
      cases rp with
      | tup h r => exact ⟨_, rfl, ⟨_, .of (s2.1.sub _ _ h)⟩, post _ H1 F2 hl1 s2.tail (walk_tup h r) (sF1.trans sF2) fun z => (p1 z).1⟩
    · exact post.elim
theorem rng_ok {i : Int} (h : rngOk i = true) : -(2 ^ 62) ≤ i ∧ i < 2 ^ 62 := by
  unfold rngOk at h
  simp only [Bool.and_eq_true, decide_eq_true_eq] at h
  omega
theorem c_rng1 {tg u : Expr} {a : RF.X} {x : Str} {p pos : Pos} (c : Cok Nm FA CA C X W) (r : ScR X sc) (hx : (x == "range") = true) (hg : glB sc x = true) (hi : isE Nm X.N a sc u = true) (ha : PE X u (tE X.K FA CA W w C a)) :
    PI X tg (.Call (.Name x p) [u] [] pos) (tIt X.K FA CA W w C (.rng1 a)) := by
  obtain rfl : x = "range" := by simpa using hx
  refine PI.imp (pi_range1 (glB_ok r hg).1 (c.blt _ (by decide)) (pa_cons ha pa_nil (star_cons hi)) (star_cons hi)) fun σ H R ⟨F, ts, env, hl, s0, post⟩ => ⟨F, ts, env, hl, s0, ?_⟩
  unfold evalIt at post
  refine bindG post fun o env1 v H1 F1 _ hl1 s1 sF1 p1 post => ?_
  cases o with
  | z d =>
    cases d with
    | int n =>
      have post : RF.PG X.K FA CA W w σ F _ (if rngOk n then RF.R.ok (rangeL 0 1 n.toNat) env1 else .no) := post
      split at post
      · rename_i hn
        obtain rfl := RepV.int (.rep s1.rep : RepV X.K FA F1 H1 v _)
        obtain ⟨h1, h2⟩ := rng_ok hn
        exact ⟨n, rfl, h1, h2, post _ H1 F1 hl1 s1.tail walk_range sF1 fun z => (p1 z).1⟩
      · exact post.elim
    | _ => exact post.elim
  | _ => exact post.elim
theorem c_rng2 {tg u v : Expr} {a b : RF.X} {x : Str} {p pos : Pos} (c : Cok Nm FA CA C X W) (r : ScR X sc) (hx : (x == "range") = true) (hg : glB sc x = true) (hi : isE Nm X.N a sc u = true) (hi2 : isE Nm X.N b sc v = true) (ha : PE X u (tE X.K FA CA W w C a)) (hb : PE X v (tE X.K FA CA W w C b)) :
    PI X tg (.Call (.Name x p) [u, v] [] pos) (tIt X.K FA CA W w C (.rng2 a b)) := by
  obtain rfl : x = "range" := by simpa using hx
  refine PI.imp (pi_range2 (glB_ok r hg).1 (c.blt _ (by decide)) (pa_cons ha (pa_cons hb pa_nil (star_cons hi2)) (star_cons hi)) (by rw [star_cons hi, star_cons hi2]; rfl) (star_cons hi2)) fun σ H R ⟨F, ts, env, hl, s0, post⟩ => ⟨F, ts, env, hl, s0, ?_⟩
  unfold evalIt at post
  have pp := fun z => Bool.and_eq_true_iff.mp (show (pureX a && pureX b) = true from z)
  refine bindG post fun o env1 v H1 F1 _ hl1 s1 sF1 p1 post => ⟨F1, (some v, o) :: ts, env1, hl1, s1.toTemp, ?_⟩
  rw [PG.bind] at post
  rw [Post.pg]
  refine post.rebaseE sF1 fun o2 env2 _ post v2 H2 F2 hl2 s2 sF2 p2 => ?_
  have s3 := s2.swapTemp
  cases o with
  | z d =>
    cases d with
    | int m =>
      cases o2 with
      | z d =>
        cases d with
        | int n =>
          have post : RF.PG X.K FA CA W w σ F _ (if rngOk m && rngOk n then RF.R.ok (rangeL m 1 (n - m).toNat) env2 else .no) := post
          split at post
          · rename_i hn
            have hn' := Bool.and_eq_true_iff.mp hn
            obtain rfl := RepV.int (.rep s3.rep : RepV X.K FA F2 H2 v _)
            obtain rfl := RepV.int (.rep s2.rep : RepV X.K FA F2 H2 v2 _)
            obtain ⟨h1, h2⟩ := rng_ok hn'.1
            obtain ⟨h3, h4⟩ := rng_ok hn'.2
            exact ⟨m, n, rfl, ⟨h1, h2, h3, h4⟩, post _ H2 F2 hl2 s3.tail.tail walk_range (sF1.trans sF2) fun z => (p1 (pp z).1).1.trans (p2 (pp z).2).1⟩
          · exact post.elim
        | _ => exact post.elim
      | _ => exact post.elim
    | _ => cases o2 <;> exact post.elim
  | _ => cases o2 <;> exact post.elim
theorem c_enum {u : Expr} {a : RF.X} {x : Str} {p pos tpos : Pos} {elts : List Expr} {kk : Nat} (c : Cok Nm FA CA C X W) (r : ScR X sc) (hx : (x == "enumerate") = true) (hg : glB sc x = true) (hi : isE Nm X.N a sc u = true) (ha : PE X u (tE X.K FA CA W w C a)) :
    PI X (.Tuple elts kk tpos) (.Call (.Name x p) [u] [] pos) (tIt X.K FA CA W w C (.enum a)) := by
  obtain rfl : x = "enumerate" := by simpa using hx
  refine PI.imp (pi_enum (glB_ok r hg).1 (c.blt _ (by decide)) (pa_cons ha pa_nil (star_cons hi)) (star_cons hi)) fun σ H R ⟨F, ts, env, hl, s0, post⟩ => ⟨F, ts, env, hl, s0, ?_⟩
  unfold evalIt at post
  refine bindG post fun o env1 v H1 F1 _ hl1 s1 sF1 p1 post => ?_
  split at post
  · rename_i ds ed
    obtain ⟨F2, sF2, s2⟩ := s1.freeze
    have rp : Rep X.K FA F2 v o.toD := s2.rep
    rw [ed] at rp
    cases rp with
    | lst h r => exact ⟨_, _, rfl, .of (s2.1.sub _ _ h), post _ H1 F2 hl1 s2.tail (walk_enum h r) (sF1.trans sF2) fun z => (p1 z).1⟩
  · exact post.elim
theorem notSet {Nm : Names} {N : List Str} {m : RF.X} {sc : Scope} {es : List Expr} {k : Nat} {p : Pos} : isE Nm N m sc (.Set es k p) = false := by cases m <;> rfl
theorem isIt_fold {N : List Str} {it : RF.It} {tg e : Expr} {env : PySem.Env} (h : isIt Nm N it sc tg e = true) : ∀ x, foldedSetIterable e env x = pure x := fun x => by
  cases e <;> first | rfl | skip
  rename_i es k p
  exfalso
  cases it <;> simp [isIt] at h
  rw [notSet] at h; cases h
/-! ### list(range(..)) -/
theorem rgV_rep {K : PySem.W.Frag} {lo hi : Int} : Reps K FA F (rgV lo hi) (rangeL lo 1 (hi - lo).toNat) := by
  have key : ∀ (n : Nat) (lo : Int), Reps K FA F ((List.range n).map fun i => V.int (lo + (i : Nat))) (rangeL lo 1 n) := by
    intro n
    induction n with
    | zero => intro lo; exact .nil
    | succ n ih =>
      intro lo
      rw [List.range_succ_eq_map, List.map_cons, List.map_map]
      refine .cons (by rw [show ((0 : Nat) : Int) = 0 from rfl, Int.add_zero]; exact .int _) ?_
      have := ih (lo + 1)
      have e : (fun i => V.int (lo + (i : Nat))) ∘ Nat.succ = fun i : Nat => V.int (lo + 1 + (i : Nat)) := by
        funext i
        show V.int (lo + ((i + 1 : Nat) : Int)) = _
        congr 1
        omega
      rw [e]; exact this
  exact key _ _
theorem c_lrange {it : RF.It} {x : Str} {u : Expr} {p pos : Pos} (c : Cok Nm FA CA C X W) (r : ScR X sc) (hx : (x == "list") = true) (hg : glB sc x = true) (hi : isIt Nm X.N it sc (.Name "x" ⟨0, 0, 0, 0⟩) u = true)
    (h1 : ∀ a, it = .rng1 a → ∀ y, isE Nm X.N a sc y = true → PE X y (tE X.K FA CA W w C a)) (h2 : ∀ a b, it = .rng2 a b → ∀ y, (isE Nm X.N a sc y = true → PE X y (tE X.K FA CA W w C a)) ∧ (isE Nm X.N b sc y = true → PE X y (tE X.K FA CA W w C b)))
    (hk : (match it with | .rng1 _ => true | .rng2 _ _ => true | _ => false) = true) : PE X (.Call (.Name x p) [u] [] pos) (tE X.K FA CA W w C (.lrange it)) := by
  obtain rfl : x = "list" := by simpa using hx
  have g := (glB_ok r hg).1
  have st : ∀ {u : Expr}, (∀ e p, u ≠ .Starred e p) → starEach [u] X.env = (false, eval u X.env) :: starEach [] X.env := fun {u} h => by cases u <;> first | rfl | exact absurd rfl (h _ _)
  cases it with
  | rng1 a =>
    cases u <;> first | (simp [isIt] at hi; done) | skip
    rename_i f us kws p2
    cases f <;> first | (simp [isIt] at hi; done) | skip
    rename_i y p3
    rcases us with _ | ⟨u1, _ | ⟨u2, us⟩⟩ <;> first | (simp [isIt] at hi; done) | skip
    cases kws with
    | cons k ks => simp [isIt] at hi
    | nil =>
      have hi' : (((y == "range") = true ∧ glB sc y = true) ∧ isE Nm X.N a sc u1 = true) := by
        have : (y == "range" && glB sc y && isE Nm X.N a sc u1) = true := hi
        rw [Bool.and_eq_true, Bool.and_eq_true] at this
        exact this
      obtain ⟨⟨i1, i2⟩, i3⟩ := hi'
      obtain rfl : y = "range" := by simpa using i1
      refine PE.imp (pe_listRg c.calm g (c.blt _ (by decide)) (prg_1 (glB_ok r i2).1 (c.blt _ (by decide)) (h1 a rfl u1 i3) (star_cons i3)) (st fun _ _ z => by cases z)) fun σ H Q ⟨F, ts, env, hl, s, post⟩ => ⟨F, ts, env, hl, s, ?_⟩
      unfold evalE at post
      rw [Post.pg, PG.bind] at post
      unfold evalIt at post
      refine bindG post fun o env1 v H1 F1 _ hl1 s1 sF1 p1 post => ?_
      cases o with
      | z d =>
        cases d with
        | int n =>
          have post : RF.PG X.K FA CA W w σ F (fun ds env1 => RF.PG X.K FA CA W w σ F (okE X.K FA w (pureX (.lrange (.rng1 a))) σ F H ts Q) (if lenOk ds then RF.R.ok (.l (ds.map .z)) env1 else .no)) (if rngOk n then RF.R.ok (rangeL 0 1 n.toNat) env1 else .no) := post
          split at post
          · rename_i hn
            have post : RF.PG X.K FA CA W w σ F (okE X.K FA w (pureX (.lrange (.rng1 a))) σ F H ts Q) (if lenOk (rangeL 0 1 n.toNat) then RF.R.ok (.l ((rangeL 0 1 n.toNat).map .z)) env1 else .no) := post
            split at post
            · rename_i hz
              obtain rfl := RepV.int (.rep s1.rep : RepV X.K FA F1 H1 v _)
              obtain ⟨b1, b2⟩ := rng_ok hn
              have hz' : (rangeL 0 1 n.toNat).length < 2 ^ 20 := of_decide_eq_true hz
              rw [rangeL_len] at hz'
              refine ⟨n, rfl, ⟨by omega, by omega, b1, b2, by omega⟩, fun q hq => ?_⟩
              have post := (Post.pg.mpr post).rebase sF1 fun z => (p1 z).1
              have e0 : (n - 0).toNat = n.toNat := by rw [Int.sub_zero]
              refine Hs.freshList (post.done hl1) s1.tail ?_ hq
              have := rgV_rep (K := X.K) (FA := FA) (F := F1) (lo := 0) (hi := n)
              rwa [e0] at this
            · exact post.elim
          · exact post.elim
        | _ => exact post.elim
      | _ => exact post.elim
  | rng2 a b =>
    cases u <;> first | (simp [isIt] at hi; done) | skip
    rename_i f us kws p2
    cases f <;> first | (simp [isIt] at hi; done) | skip
    rename_i y p3
    rcases us with _ | ⟨u1, _ | ⟨u2, _ | ⟨u3, us⟩⟩⟩ <;> first | (simp [isIt] at hi; done) | skip
    cases kws with
    | cons k ks => simp [isIt] at hi
    | nil =>
      have hi' : ((((y == "range") = true ∧ glB sc y = true) ∧ isE Nm X.N a sc u1 = true) ∧ isE Nm X.N b sc u2 = true) := by
        have : (y == "range" && glB sc y && isE Nm X.N a sc u1 && isE Nm X.N b sc u2) = true := hi
        rw [Bool.and_eq_true, Bool.and_eq_true, Bool.and_eq_true] at this
        exact this
      obtain ⟨⟨⟨i1, i2⟩, i3⟩, i4⟩ := hi'
      obtain rfl : y = "range" := by simpa using i1
      refine PE.imp (pe_listRg c.calm g (c.blt _ (by decide)) (prg_2 (glB_ok r i2).1 (c.blt _ (by decide)) ((h2 a b rfl u1).1 i3) ((h2 a b rfl u2).2 i4) (star_cons i3) (star_cons i4) (by rw [star_cons i4]; rfl)) (st fun _ _ z => by cases z)) fun σ H Q ⟨F, ts, env, hl, s, post⟩ => ⟨F, ts, env, hl, s, ?_⟩
      unfold evalE at post
      rw [Post.pg, PG.bind] at post
      unfold evalIt at post
      have pp := fun z => Bool.and_eq_true_iff.mp (show (pureX a && pureX b) = true from z)
      refine bindG post fun o env1 v H1 F1 _ hl1 s1 sF1 p1 post => ⟨F1, (some v, o) :: ts, env1, hl1, s1.toTemp, ?_⟩
      rw [PG.bind] at post
      rw [Post.pg]
      refine post.rebaseE sF1 fun o2 env2 _ post v2 H2 F2 hl2 s2 sF2 p2 => ?_
      have s3 := s2.swapTemp
      cases o with
      | z d =>
        cases d with
        | int m =>
          cases o2 with
          | z d =>
            cases d with
            | int n =>
              have post : RF.PG X.K FA CA W w σ F (fun ds env1 => RF.PG X.K FA CA W w σ F (okE X.K FA w (pureX (.lrange (.rng2 a b))) σ F H ts Q) (if lenOk ds then RF.R.ok (.l (ds.map .z)) env1 else .no)) (if rngOk m && rngOk n then RF.R.ok (rangeL m 1 (n - m).toNat) env2 else .no) := post
              split at post
              · rename_i hn
                have hn' := Bool.and_eq_true_iff.mp hn
                have post : RF.PG X.K FA CA W w σ F (okE X.K FA w (pureX (.lrange (.rng2 a b))) σ F H ts Q) (if lenOk (rangeL m 1 (n - m).toNat) then RF.R.ok (.l ((rangeL m 1 (n - m).toNat).map .z)) env2 else .no) := post
                split at post
                · rename_i hz
                  obtain rfl := RepV.int (.rep s3.rep : RepV X.K FA F2 H2 v _)
                  obtain rfl := RepV.int (.rep s2.rep : RepV X.K FA F2 H2 v2 _)
                  obtain ⟨b1, b2⟩ := rng_ok hn'.1
                  obtain ⟨b3, b4⟩ := rng_ok hn'.2
                  have hz' : (rangeL m 1 (n - m).toNat).length < 2 ^ 20 := of_decide_eq_true hz
                  rw [rangeL_len] at hz'
                  refine ⟨m, n, rfl, rfl, ⟨b1, b2, b3, b4, by omega⟩, fun q hq => ?_⟩
                  have post := (Post.pg.mpr post).rebase (sF1.trans sF2) fun z => (p1 (pp z).1).1.trans (p2 (pp z).2).1
                  exact Hs.freshList (post.done hl2) s3.tail.tail rgV_rep hq
                · exact post.elim
              · exact post.elim
            | _ => exact post.elim
          | _ => exact post.elim
        | _ => cases o2 <;> exact post.elim
      | _ => cases o2 <;> exact post.elim
  | _ => cases hk
/-! ### pop -/
theorem attr_line {m : Str} {p q : Pos} (h : (p.endLine == q.line) = true) : p.endLine = q.line := by simpa using h
end
end RF
/-! RFn: list comprehensions; pops. -/
namespace RF
open L2 PySem PySem.Spec PyProof.Rows
theorem lv_setw : ∀ {σ : L2.St} {env : Env} {i : Nat} {u : Option V}, env.length = σ.length → getE env i = none → lv (σ.set i u) env = lv σ env
  | [], [], _, _, _, _ => rfl
  | [], _ :: _, _, _, hl, _ => by simp at hl
  | _ :: _, [], _, _, hl, _ => by simp at hl
  | w :: σ, x :: env, 0, u, hl, e => by
    cases x with
    | none => rfl
    | some x => simp [getE] at e
  | w :: σ, x :: env, i + 1, u, hl, e => by
    have h := lv_setw (σ := σ) (env := env) (i := i) (u := u) (by simpa using hl) (by simpa [getE] using e)
    rw [List.set_cons_succ]
    cases x with
    | none => rw [lv_none, lv_none, h]
    | some x => rw [lv_some, lv_some, h]
theorem wipeE_len (env : Env) : ∀ is : List Nat, (wipeE env is).length = env.length
  | [] => rfl
  | i :: is => by simp [wipeE, wipeE_len env is]
theorem getE_set_ne {env : Env} {i j : Nat} {o : Option O} (h : i ≠ j) : getE (env.set i o) j = getE env j := by
  unfold getE
  rw [List.getElem?_set_ne h]
theorem getE_set_none {env : Env} {i : Nat} : getE (env.set i none) i = none := by
  unfold getE
  by_cases h : i < env.length
  · rw [List.getElem?_set_self h]; rfl
  · rw [List.getElem?_eq_none (by simpa using h)]; rfl
theorem getE_wipe_ne {env : Env} : ∀ {is : List Nat} {j : Nat}, j ∉ is → getE (wipeE env is) j = getE env j
  | [], _, _ => rfl
  | i :: is, j, h => by
    have h' : j ≠ i ∧ j ∉ is := ⟨fun e => h (e ▸ List.mem_cons_self), fun m => h (List.mem_cons_of_mem _ m)⟩
    show getE ((wipeE env is).set i none) j = _
    rw [getE_set_ne (Ne.symm h'.1), getE_wipe_ne h'.2]
theorem getE_wipe {env : Env} : ∀ {is : List Nat} {j : Nat}, j ∈ is → getE (wipeE env is) j = none
  | i :: is, j, h => by
    show getE ((wipeE env is).set i none) j = _
    by_cases e : i = j
    · subst e; exact getE_set_none
    · rw [getE_set_ne e]
      rcases List.mem_cons.mp h with z | z
      · exact absurd z.symm e
      · exact getE_wipe z
theorem restore_len {old new : Env} : ∀ is : List Nat, (restore old new is).length = new.length
  | [] => rfl
  | i :: is => by simp [restore, restore_len is]
theorem getE_restore_ne {old new : Env} : ∀ {is : List Nat} {j : Nat}, j ∉ is → getE (restore old new is) j = getE new j
  | [], _, _ => rfl
  | i :: is, j, h => by
    have h' : j ≠ i ∧ j ∉ is := ⟨fun e => h (e ▸ List.mem_cons_self), fun m => h (List.mem_cons_of_mem _ m)⟩
    show getE ((restore old new is).set i _) j = _
    rw [getE_set_ne (Ne.symm h'.1), getE_restore_ne h'.2]
/-- what the block's own names hid -/
def hid (σ : L2.St) (env : Env) : List Nat → List (Option V × O)
  | [] => []
  | i :: is => (match getE env i with | some o => [((σ[i]?).join, o)] | none => []) ++ hid σ env is
section
variable {K : PySem.W.Frag} {FA : Fns} {w : W0} {F F' H H' : Hp} {ts ps : List (Option V × O)} {σ : L2.St} {env : Env}
theorem Hs.hide : ∀ {is : List Nat}, is.Nodup → env.length = σ.length → Hs K FA w F H (lv σ env ++ ts) → Hs K FA w F H (lv (L2.wipe σ is) (wipeE env is) ++ (hid σ env is ++ ts))
  | [], _, _, s => s
  | i :: is, nd, hl, s => by
    obtain ⟨n1, n2⟩ := List.nodup_cons.mp nd
    have s1 := Hs.hide n2 hl s
    have hl1 : (wipeE env is).length = (wipe σ is).length := by rw [wipeE_len, wipe_length, hl]
    show Hs K FA w F H (lv ((wipe σ is).set i none) ((wipeE env is).set i none) ++ (((match getE env i with | some o => [((σ[i]?).join, o)] | none => []) ++ hid σ env is) ++ ts))
    rw [lv_setw (by simp [hl1]) getE_set_none]
    cases e : getE env i with
    | none =>
      rw [lv_none_of hl1 (by rw [getE_wipe_ne n1, e])]
      exact s1
    | some o =>
      obtain ⟨v, e1, s2⟩ := s1.take hl1 (by rw [getE_wipe_ne n1, e])
      have e2 := (wipe_some e1).1
      have e3 : (σ[i]?).join = some v := by rw [e2]; rfl
      show Hs K FA w F H (lv (wipe σ is) ((wipeE env is).set i none) ++ (([((σ[i]?).join, o)] ++ hid σ env is) ++ ts))
      rw [e3]
      exact s2.toTemp
theorem Hs.unhide {env2 : Env} : ∀ {is : List Nat} {ts : List (Option V × O)}, is.Nodup → env.length = σ.length → env2.length = σ.length → (∀ i ∈ is, getE env2 i = none) → (∀ i ∈ is, ∀ o, getE env i = some o → ∃ v, σ[i]? = some (some v)) →
    Hs K FA w F H (lv (L2.wipe σ is) env2 ++ (hid σ env is ++ ts)) → Hs K FA w F H (lv σ (RF.restore env env2 is) ++ ts)
  | [], _, _, _, _, _, _, s => s
  | i :: is, ts, nd, hl, hl2, hn, hv, s => by
    obtain ⟨n1, n2⟩ := List.nodup_cons.mp nd
    have s : Hs K FA w F H (lv ((L2.wipe σ is).set i none) env2 ++ (((match getE env i with | some o => [((σ[i]?).join, o)] | none => []) ++ hid σ env is) ++ ts)) := s
    rw [lv_setw (by rw [wipe_length, hl2]) (hn i List.mem_cons_self)] at s
    have s1 : Hs K FA w F H (lv (L2.wipe σ is) env2 ++ (hid σ env is ++ ((match getE env i with | some o => [((σ[i]?).join, o)] | none => []) ++ ts))) := by
      refine s.perm (List.Perm.append_left _ ?_)
      rw [List.append_assoc]
      exact perm_abc
    have s2 := Hs.unhide n2 hl hl2 (fun j m => hn j (List.mem_cons_of_mem _ m)) (fun j m => hv j (List.mem_cons_of_mem _ m)) s1
    have hl3 : (RF.restore env env2 is).length = σ.length := by rw [restore_len, hl2]
    have gn : getE (RF.restore env env2 is) i = none := by rw [getE_restore_ne n1]; exact hn i List.mem_cons_self
    show Hs K FA w F H (lv σ ((RF.restore env env2 is).set i ((env[i]?).join)) ++ ts)
    cases e : getE env i with
    | none =>
      have e' : (env[i]?).join = none := e
      rw [e', lv_none_of hl3 gn]
      rw [e] at s2
      exact s2
    | some o =>
      have e' : (env[i]?).join = some o := e
      rw [e']
      rw [e] at s2
      obtain ⟨v, e1⟩ := hv i List.mem_cons_self o e
      have e3 : (σ[i]?).join = some v := by rw [e1]; rfl
      have s3 : Hs K FA w F H ((some v, o) :: (lv σ ((RF.restore env env2 is).set i none) ++ ts)) := by
        rw [lv_none_of hl3 gn]
        have s2 : Hs K FA w F H (lv σ (RF.restore env env2 is) ++ ((σ[i]?).join, o) :: ts) := s2
        rw [e3] at s2
        exact s2.ofTemp
      exact s3.back hl3 e1
theorem Hs.wipe : ∀ {is : List Nat}, env.length = σ.length → Hs K FA w F H (lv σ env ++ ts) → Hs K FA w F H (lv (L2.wipe σ is) (wipeE env is) ++ ts)
  | [], _, s => s
  | i :: is, hl, s => by
    have s1 := Hs.wipe (is := is) hl s
    have hl1 : (wipeE env is).length = (L2.wipe σ is).length := by rw [wipeE_len, wipe_length, hl]
    show Hs K FA w F H (lv ((L2.wipe σ is).set i none) ((wipeE env is).set i none) ++ ts)
    rw [lv_setw (by simp [hl1]) getE_set_none]
    exact s1.forget hl1
theorem Hs.slots (hl : env.length = σ.length) (s : Hs K FA w F H (lv σ env ++ ts)) : ∀ i o, getE env i = some o → ∃ v, σ[i]? = some (some v) := fun i o e => by
  obtain ⟨v, e1, _⟩ := s.take hl e
  exact ⟨v, e1⟩
end
theorem wipe_getElem {σ : L2.St} : ∀ {is : List Nat} {j : Nat}, (wipe σ is)[j]? = if j ∈ is then (σ[j]?).map fun _ => none else σ[j]?
  | [], j => by simp [wipe]
  | i :: is, j => by
    show ((wipe σ is).set i none)[j]? = _
    by_cases e : i = j
    · subst e
      rw [if_pos List.mem_cons_self]
      by_cases h : i < σ.length
      · rw [List.getElem?_set_self (by rw [wipe_length]; exact h), List.getElem?_eq_getElem h]; rfl
      · rw [List.getElem?_eq_none (by rw [List.length_set, wipe_length]; omega), List.getElem?_eq_none (by omega)]; rfl
    · rw [List.getElem?_set_ne e, wipe_getElem]
      by_cases m : j ∈ is
      · rw [if_pos m, if_pos (List.mem_cons_of_mem _ m)]
      · rw [if_neg m, if_neg (fun z => (List.mem_cons.mp z).elim (fun z => e z.symm) m)]
theorem wipe_beside {σ σ' : L2.St} {is js : List Nat} (b : Beside js (wipe σ is) σ') (h : ∀ j ∈ js, j ∈ is) : wipe σ' is = wipe σ is := by
  apply List.ext_getElem?
  intro j
  rw [wipe_getElem, wipe_getElem]
  by_cases m : j ∈ is
  · rw [if_pos m, if_pos m]
    have hl : σ'.length = σ.length := by rw [b.1, wipe_length]
    by_cases q : j < σ.length
    · rw [List.getElem?_eq_getElem q, List.getElem?_eq_getElem (by omega)]; rfl
    · rw [List.getElem?_eq_none (by omega), List.getElem?_eq_none (by omega)]
  · rw [if_neg m, if_neg m, b.2 j (fun z => m (h j z)), wipe_getElem, if_neg m]
section
variable {Nm : Names} {FA : Fns} {CA : Nat → Option Addr} {C : Cfg} {X : Cx} {W : WX} {w : W0} {sc : Scope}
variable {σ : L2.St} {F F' F1 H H' H1 : Hp} {ts : List (Option V × O)} {Q Q1 : VK} {pu pu1 fl : Bool}
abbrev WF : WX := fun _ _ _ _ => False
/-- a clause's tests -/
def tCond (K : PySem.W.Frag) (FA : Fns) (CA : Nat → Option Addr) (w : W0) (C : Cfg) (m : Xo) : TT := fun σ H Q => ∃ F ts env, env.length = σ.length ∧ Hs K FA w F H (lv σ env ++ ts) ∧
  Post K FA CA WF w (pureXo m) σ F H ts (fun x H' => ∃ k, x = .bl k ∧ Q k H') (evalCond C m env)
theorem PTs.imp {ifs : List Expr} {t t' : TT} (h : PTs X ifs t) (i : ∀ σ H Q, t' σ H Q → t σ H Q) : PTs X ifs t' := ⟨fun pins s σ H Q I q => h.run pins s σ H Q I (i _ _ _ q)⟩
theorem c_condN : PTs X [] (tCond X.K FA CA w C .none) := by
  refine PTs.imp pts_nil fun σ H Q ⟨F, ts, env, hl, s, post⟩ => ?_
  obtain ⟨k, e, q⟩ := post (.bl true) H F hl (s.add (.bl true)) (Sub.refl _) fun _ => ⟨Sub.refl _, Fresh.z (.bl true)⟩
  cases e
  exact q
theorem c_condS {m : RF.X} {e : Expr} (h : PT X e (tTest (tE X.K FA CA WF w C m))) : PTs X [e] (tCond X.K FA CA w C (.some m)) :=
  PTs.imp (pts_one h) fun σ H Q ⟨F, ts, env, hl, s, post⟩ => ⟨F, ts, env, hl, s, post⟩
theorem nox_ok {r : R O} {α : Type} {k : O → Env → R α} {a : α} {env : Env} : (r.nox.bind k) = (match r with | .ok o e => k o e | _ => .no) := by cases r <;> rfl
theorem i_comp {elt : RF.X} {t : Tg} {it : RF.It} {cd : Xo} {own : List Nat} (hnd : own.Nodup) (hin : ∀ i ∈ tgSlots t, i ∈ own) : ∀ σ H Q, σ.length = X.N.length → tE X.K FA CA W w C (.comp elt t it cd own) σ H Q → tLc (tIt X.K FA CA W w C it) (tTg' X.K FA w X.N.length t) (tCond X.K FA CA w C cd) (tE X.K FA CA WF w C elt) own σ H Q := by
  intro σ H Q hn ⟨F, ts, env, hl, s0, post⟩
  refine ⟨F, ts, env, hl, s0, ?_⟩
  unfold evalE at post
  rw [Post.pg, PG.bind] at post
  have pp := fun z => Bool.and_eq_true_iff.mp (show ((pureX elt && pureIt it) && pureXo cd) = true from z)
  refine post.imp fun ds env1 _ post J H1 F1 hl1 s1 wk sF1 p1 => ?_
  intro D hD
  -- the result as the evaluator has it
  have post : RF.PG X.K FA CA W w σ F (okE X.K FA w (pureX (.comp elt t it cd own)) σ F H ts Q) ((evalComp (fun e => evalE C elt e) t (fun e => evalCond C cd e) own ds (wipeE env1 own) []).bind fun os env2 =>
      .ok (.l os) (if (pureX elt && pureIt it && pureXo cd) && O.cleans os then env else restore env1 env2 own)) := post
  generalize er : evalComp (fun e => evalE C elt e) t (fun e => evalCond C cd e) own ds (wipeE env1 own) [] = rr at post
  let Inv' : Nat → Nat → Hp → Prop := fun i m H2 => m = ds.length - i ∧ i ≤ ds.length ∧ ∃ F2 env2 acc vs, Sub F1 F2 ∧ env2.length = σ.length ∧ (∀ j ∈ own, getE env2 j = none) ∧
    Hs X.K FA w F2 H2 ((some (.ref D), .l acc) :: (lv (wipe σ own) env2 ++ (hid σ env1 own ++ ts))) ∧ H2 D = some (.lst vs) ∧ evalComp (fun e => evalE C elt e) t (fun e => evalCond C cd e) own (ds.drop i) env2 acc = rr ∧
    ((pureX elt && pureXo cd) = true → Sub H1 H2 ∧ ∃ A, RepOs X.K FA F2 H2 vs acc A ∧ ∀ a ∈ A, H1 a = none)
  have hlw : (wipeE env1 own).length = σ.length := by rw [wipeE_len, hl1]
  refine ⟨Inv', ⟨ds.length, by omega, by omega, F1, wipeE env1 own, [], [], Sub.refl _, hlw, fun j m => getE_wipe m, ?_, upd_same, er, fun _ => ⟨sub_upd hD, [], .nil, fun a m => nomatch m⟩⟩, ?_⟩
  · have s2 := s1.hide hnd hl1
    exact s2.newList (ds := []) (vs := []) .nil hD
  rintro i m H2 ⟨rfl, hi2, F2, env2, acc, vs, sF2, hl2, hn2, s2, hv2, er2, p2⟩
  by_cases hlast : i < ds.length
  · -- a turn
    right
    have hsub : Sub F2 H2 := s2.1.sub
    refine ⟨wk.go i H2 F2 sF2 hsub hlast, Inv' (i + 1) (ds.length - (i + 1)), fun H' h => ⟨_, by omega, h⟩, fun x H3 hy => ?_⟩
    have hdi : ds[i]? = some ds[i] := List.getElem?_eq_getElem hlast
    obtain ⟨F3, sF3, sH3, s3⟩ := wk.yld i H2 x H3 F2 _ _ sF2 s2 hdi hy
    rw [List.drop_eq_getElem_cons hlast] at er2
    unfold evalComp at er2
    have hlw2 : (wipe σ own).length = X.N.length := by rw [wipe_length, hn]
    cases e1 : tgE t (.z ds[i]) env2 with
    | none => rw [e1] at er2; subst er2; exact False.elim post
    | some env3 =>
      rw [e1] at er2
      have s3' : Hs X.K FA w F3 H3 ((some x, .z ds[i]) :: (lv (wipe σ own) env2 ++ ((some (.ref D), .l acc) :: (hid σ env1 own ++ ts)))) := by
        refine s3.perm (List.Perm.cons _ ?_)
        exact List.perm_middle.symm
      refine ⟨hlw2, F3, _, env2, _, by rw [hl2, wipe_length], s3', env3, e1, fun σ2 bs hl3 s4 => ?_⟩
      have ew : wipe σ2 own = wipe σ own := wipe_beside bs hin
      have hl2' : σ2.length = σ.length := by rw [bs.1, wipe_length]
      refine ⟨ew, F3, _, env3, hl3, s4, ?_⟩
      have er2 : ((evalCond C cd env3).nox.bind fun b env2 => match b with
            | .z (.bl true) => if lenOk acc then (evalE C elt env2).nox.bind fun o env3 => evalComp (fun e => evalE C elt e) t (fun e => evalCond C cd e) own (ds.drop (i + 1)) (wipeE env3 own) (acc ++ [o]) else .no
            | .z (.bl false) => evalComp (fun e => evalE C elt e) t (fun e => evalCond C cd e) own (ds.drop (i + 1)) (wipeE env2 own) acc
            | _ => .no) = rr := er2
      cases e2 : evalCond C cd env3 with
      | no => rw [e2] at er2; subst er2; exact False.elim post
      | ex c ds => rw [e2] at er2; subst er2; exact False.elim post
      | ok o env4 =>
        rw [e2] at er2
        intro vb H4 F4 hl4 s5 sF4 p4
        cases o with
        | l _ => subst er2; exact False.elim post
        | t _ => subst er2; exact False.elim post
        | z d =>
        cases d with
        | bl b =>
          have ev := RepV.bl (.rep s5.rep : RepV X.K FA F4 H4 vb _)
          subst ev
          cases b with
          | true =>
          have er2 : (if lenOk acc then (evalE C elt env4).nox.bind fun o env3 => evalComp (fun e => evalE C elt e) t (fun e => evalCond C cd e) own (ds.drop (i + 1)) (wipeE env3 own) (acc ++ [o]) else .no) = rr := er2
          refine ⟨true, rfl, iteT ?_⟩
          split at er2
          · rename_i hlen
            refine ⟨F4, _, env4, hl4, s5.tail, ?_⟩
            cases e3 : evalE C elt env4 with
            | no => rw [e3] at er2; subst er2; exact False.elim post
            | ex c ds => rw [e3] at er2; subst er2; exact False.elim post
            | ok oo env5 =>
              rw [e3] at er2
              intro y H5 F5 hl5 s6 sF5 p5
              have s7 : Hs X.K FA w F5 H5 ((some (.ref D), .l acc) :: (some y, oo) :: (lv σ2 env5 ++ (hid σ env1 own ++ ts))) := s6.swapTemp
              obtain ⟨a', vs', ea, hv5, hvl⟩ := s7.own
              obtain rfl : D = a' := V.ref.inj ea
              refine ⟨vs', hv5, ?_, by omega, by omega, F5, wipeE env5 own, acc ++ [oo], vs' ++ [y], ((sF2.trans sF3).trans sF4).trans sF5, by rw [wipeE_len, hl5, hl2'], fun j m => getE_wipe m, ?_, upd_same, er2, fun z => ?_⟩
              · rw [hvl]
                have := of_decide_eq_true (show decide (acc.length < 2 ^ 20) = true from hlen)
                have e24 : (sizeLine : Nat) = 2 ^ 24 := rfl
                omega
              · have s8 := Hs.append hv5 s7
                have s9 := s8.toTemp.wipe (is := own) hl5
                rw [ew] at s9
                exact s9.ofTemp
              · have z' := Bool.and_eq_true_iff.mp z
                obtain ⟨q1, A, q2, q3⟩ := p2 z
                obtain ⟨q4, q5⟩ := p4 z'.2
                obtain ⟨q6, B, q7, q8⟩ := p5 z'.1
                have sb : Sub H2 H5 := (sH3.trans q4).trans q6
                -- what is in the new list stood as it was but for the list itself
                have ev : vs' = vs := by
                  have := sb _ _ hv2
                  rw [hv5] at this
                  cases this; rfl
                subst ev
                have hA : RepOs X.K FA F5 (upd H5 D (.lst (vs' ++ [y]))) vs' acc A := by
                  have a1 : RepOs X.K FA F5 H5 vs' acc A := q2.frame ((sF3.trans sF4).trans sF5) (fun a m => by
                    obtain ⟨xs, e⟩ := q2.dom a m
                    rw [e]; exact sb _ _ e) sb.tups
                  refine a1.frame (Sub.refl _) (fun a m => upd_ne fun e => ?_) (fun a xs e => ?_)
                  · subst e
                    obtain ⟨hr, C', rC, nd, _⟩ := s7
                    cases rC with
                    | cons h1 r1 =>
                      cases h1 with
                      | l h2 r2 =>
                        rw [hv5] at h2; cases h2
                        have := a1.uniq r2
                        subst this
                        exact (List.nodup_cons.mp nd).1 (List.mem_append_left _ m)
                  · by_cases z : a = D
                    · subst z; rw [hv5] at e; cases e
                    · rw [upd_ne z]; exact e
                have hB : RepO X.K FA F5 (upd H5 D (.lst (vs' ++ [y]))) y oo B := by
                  refine q7.frame (Sub.refl _) (fun a m => upd_ne fun e => ?_) (fun a xs e => ?_)
                  · subst e
                    have := q8 a m
                    rw [(sH3.trans q4) _ _ hv2] at this
                    cases this
                  · by_cases z : a = D
                    · subst z; rw [hv5] at e; cases e
                    · rw [upd_ne z]; exact e
                refine ⟨fun a ob e => ?_, A ++ (B ++ []), hA.append (RepOs.cons hB .nil), fun a m => ?_⟩
                · have : a ≠ D := fun z => by rw [z, hD] at e; cases e
                  rw [upd_ne this]; exact sb _ _ (q1 _ _ e)
                · rcases List.mem_append.mp m with m | m
                  · exact q3 a m
                  · rw [List.append_nil] at m
                    have n4 := q8 a m
                    cases e : H1 a with
                    | none => rfl
                    | some ob => rw [(sH3.trans q4) _ _ (q1 _ _ e)] at n4; cases n4
          · subst er2; exact False.elim post
          | false =>
          have er2 : evalComp (fun e => evalE C elt e) t (fun e => evalCond C cd e) own (ds.drop (i + 1)) (wipeE env4 own) acc = rr := er2
          refine ⟨false, rfl, iteF ⟨rfl, by omega, F4, wipeE env4 own, acc, ?_⟩⟩
          have s6 : Hs X.K FA w F4 H4 (lv σ2 env4 ++ ((some (.ref D), .l acc) :: (hid σ env1 own ++ ts))) := s5.tail
          obtain ⟨a', vs', ea, hv4, hvl⟩ := s6.ofTemp.own
          obtain rfl : D = a' := V.ref.inj ea
          have s7 := s6.wipe (is := own) hl4
          rw [ew] at s7
          refine ⟨vs', (sF2.trans sF3).trans sF4, by rw [wipeE_len, hl4, hl2'], fun j m => getE_wipe m, s7.ofTemp, hv4, er2, fun z => ?_⟩
          have z' := Bool.and_eq_true_iff.mp z
          obtain ⟨q1, A, q2, q3⟩ := p2 z
          obtain ⟨q4, q5⟩ := p4 z'.2
          have sb : Sub H2 H4 := sH3.trans q4
          have ev : vs' = vs := by
            have := sb _ _ hv2
            rw [hv4] at this
            cases this; rfl
          subst ev
          exact ⟨q1.trans sb, A, q2.frame (sF3.trans sF4) (fun a m => by
            obtain ⟨xs, e⟩ := q2.dom a m
            rw [e]; exact sb _ _ e) sb.tups, q3⟩
        | _ => subst er2; exact False.elim post
  · -- the end
    left
    refine ⟨wk.stop i H2 F2 sF2 s2.1.sub (by omega), ?_⟩
    have e0 : ds.drop i = [] := List.drop_eq_nil_iff.mpr (by omega)
    rw [e0] at er2
    unfold evalComp at er2
    subst er2
    have s3 : Hs X.K FA w F2 H2 (lv (wipe σ own) env2 ++ (hid σ env1 own ++ ((some (.ref D), .l acc) :: ts))) := by
      refine s2.perm ?_
      refine List.Perm.trans (List.perm_middle.symm) ?_
      exact (List.perm_middle.symm).append_left _
    have s4 := s3.unhide hnd hl1 (hl2.trans rfl) hn2 (fun j m o e => (s1.slots hl1) j o e)
    have s5 := s4.ofTemp
    have hl4 : (restore env1 env2 own).length = σ.length := by rw [restore_len, hl2]
    have post : okE X.K FA w (pureX (.comp elt t it cd own)) σ F H ts Q (.l acc) (if ((pureX elt && pureIt it) && pureXo cd) && O.cleans acc then env else restore env1 env2 own) := post
    have fr : (pureX elt && pureXo cd) = true → Sub H1 H2 ∧ Fresh X.K FA F2 H1 H2 (.ref D) (.l acc) := fun z => by
      obtain ⟨q1, A, q2, q3⟩ := p2 z
      refine ⟨q1, D :: A, .l hv2 q2, fun a m => ?_⟩
      rcases List.mem_cons.mp m with e | m
      · rw [e]; exact hD
      · exact q3 a m
    split at post
    · rename_i hz
      have hz' := Bool.and_eq_true_iff.mp hz
      have z2 := pp hz'.1
      have z3 := Bool.and_eq_true_iff.mp z2.1
      obtain ⟨q1, q2⟩ := fr (by rw [z3.1, z2.2]; rfl)
      have sH := (p1 z3.2).trans q1
      obtain ⟨F5, sF5, fr5, s6⟩ := Hs.restore s0 s5 sH (sF1.trans sF2) (q2.weak (p1 z3.2)) (by simpa [O.clean] using hz'.2)
      exact post _ H2 F5 hl s6 sF5 fun _ => ⟨sH, fr5⟩
    · refine post _ H2 F2 hl4 s5 (sF1.trans sF2) fun z => ?_
      have z2 := pp z
      have z3 := Bool.and_eq_true_iff.mp z2.1
      obtain ⟨q1, q2⟩ := fr (by rw [z3.1, z2.2]; rfl)
      exact ⟨(p1 z3.2).trans q1, q2.weak (p1 z3.2)⟩
theorem c_comp {elt : RF.X} {t : Tg} {it : RF.It} {cd : Xo} {own : List Nat} {u tg iu : Expr} {ifs : List Expr} {sc' : Scope} {pos : Pos} (c : Cok Nm FA CA C X W) (r : ScR X sc)
    (hb : BlkOk X.N X.env.scope sc' (ownOf X.N own)) (hnd : own.Nodup) (hin : ∀ i ∈ tgSlots t, i ∈ own) (hlt : ∀ i ∈ own, i < X.N.length) (hf : ∀ x, foldedSetIterable iu X.env x = pure x)
    (hi : PI X tg iu (tIt X.K FA CA W w C it)) (hg : ∀ s H cenv fp, (∃ C' cl, cenv = compEnvC sc' cl C' X.env) → L2.PG (X.blk s H sc' cenv fp) tg (tTg' X.K FA w X.N.length t))
    (ht : ∀ s H cenv fp, (∃ C' cl, cenv = compEnvC sc' cl C' X.env) → PTs (X.blk s H sc' cenv fp) ifs (tCond X.K FA CA w C cd)) (he : ∀ s H cenv fp, (∃ C' cl, cenv = compEnvC sc' cl C' X.env) → PE (X.blk s H sc' cenv fp) u (tE X.K FA CA WF w C elt))
    (hσ : ∀ pins s σ H, L2.Inv X pins σ H s → σ.length = X.N.length) : PE X (.ListComp u [⟨tg, iu, ifs, 0⟩] sc' pos) (tE X.K FA CA W w C (.comp elt t it cd own)) := by
  have key := @i_comp FA CA C X W w elt t it cd own hnd hin
  have eo : (ownOf X.N own).map (·.2) = own := by
    unfold ownOf
    rw [List.map_map]
    exact List.map_id' _
  refine ⟨fun pins s σ H Q I h => ?_⟩
  refine (pe_lc c.calm c.nd hi hb (fun s H C' cl fp => hg s H _ fp ⟨C', cl, rfl⟩) (fun s H C' cl fp => ht s H _ fp ⟨C', cl, rfl⟩) (fun s H C' cl fp => he s H _ fp ⟨C', cl, rfl⟩) hf).run pins s σ H Q I ?_
  rw [eo]
  exact key σ H Q (hσ _ _ _ _ I) h
end
end RF
/-! RFo: pops; conditions. -/
namespace RF
open L2 PySem PySem.Spec PyProof.Rows
section
variable {Nm : Names} {FA : Fns} {CA : Nat → Option Addr} {C : Cfg} {X : Cx} {W : WX} {w : W0} {sc : Scope}
variable {σ : L2.St} {F F' F1 H H' H1 : Hp} {ts : List (Option V × O)} {Q Q1 : VK} {pu pu1 fl : Bool}
theorem c_pop {i : Nat} {x m : Str} {px p pos : Pos} (r : ScR X sc) (hv : visB X.N sc i x = true) (hm : (m == "pop") = true) (hl : (p.endLine == pos.line) = true) :
    PE X (.Call (.Attribute (.Name x px) m p) [] [] pos) (tE X.K FA CA W w C (.pop i)) := by
  obtain rfl : m = "pop" := by simpa using hm
  refine PE.imp (pe_bm0 (T := "list") PySem.F.plainAttrs_list PySem.F.slot_list_pop PySem.F.type_list_pop mt_pop (pe_slot r hv) (by rfl) hl) fun σ H Q ⟨F, ts, env, hl, s, post⟩ => ?_
  unfold evalE at post
  cases e : getE env i with
  | none => rw [e] at post; exact False.elim post
  | some o =>
    rw [e] at post
    cases o with
    | z d => exact False.elim post
    | t os => exact False.elim post
    | l os =>
      have post : Post X.K FA CA W w (pureX (.pop i)) σ F H ts Q (match os[os.length - 1]? with | some o => .ok o (env.set i (some (.l os.dropLast))) | none => .no) := post
      cases e2 : os[os.length - 1]? with
      | none => rw [e2] at post; exact False.elim post
      | some o =>
        rw [e2] at post
        obtain ⟨v, e1, s1⟩ := s.take hl e
        obtain ⟨a, vs, rfl, hv, hvl⟩ := s1.own
        obtain ⟨y, e3, s2⟩ := s1.erase hv e2
        refine ⟨_, e1, Or.inl ⟨rfl, _, Or.inl (Or.inl hv)⟩, a, vs, y, rfl, rfl, hv, by rw [hvl]; exact e3, ?_⟩
        rw [PyProof.Rows.Copied.eraseIdx_last, ← hvl, PyProof.Rows.Copied.eraseIdx_last] at s2
        have s3 := s2.perm ((List.Perm.swap _ _ _).trans (List.Perm.cons _ List.perm_middle.symm))
        have s4 := (Hs.back hl e1 s3).ofTemp
        exact post y _ F (by rw [List.length_set]; exact hl) s4 (Sub.refl _) fun z => nomatch (show false = true from z)
theorem c_popAt {i : Nat} {k : RF.X} {u : Expr} {x m : Str} {px p pos : Pos} (r : ScR X sc) (hv : visB X.N sc i x = true) (hm : (m == "pop") = true) (hl : (p.endLine == pos.line) = true) (hi : isE Nm X.N k sc u = true) (hk : PE X u (tE X.K FA CA W w C k)) :
    PE X (.Call (.Attribute (.Name x px) m p) [u] [] pos) (tE X.K FA CA W w C (.popAt i k)) := by
  obtain rfl : m = "pop" := by simpa using hm
  refine PE.imp (pe_bm (T := "list") PySem.F.plainAttrs_list PySem.F.slot_list_pop PySem.F.type_list_pop mt_popAt (pe_slot r hv) (pa_cons hk pa_nil (star_cons hi)) (by rfl) (by rw [star_cons hi]; rfl) hl (star_cons hi) (by rfl)) fun σ H Q ⟨F, ts, env, hl, s, post⟩ => ?_
  unfold evalE at post
  cases e : getE env i with
  | none => rw [e] at post; exact False.elim post
  | some o =>
    rw [e] at post
    cases o with
    | z d => exact False.elim post
    | t os => exact False.elim post
    | l os0 =>
      obtain ⟨v, e1, s1⟩ := s.take hl e
      obtain ⟨a, vs0, rfl, hv0, hvl0⟩ := s1.own
      refine ⟨_, e1, Or.inl ⟨rfl, _, Or.inl (Or.inl hv0)⟩, F, ts, env, hl, s, ?_⟩
      refine bindE post fun o env1 x H1 F1 _ hl1 s1 sF1 p1 post => ?_
      have post := post.rebase sF1 (H1 := H1) fun z => nomatch (show false = true from z)
      cases o with
      | l _ => exact False.elim post
      | t _ => exact False.elim post
      | z d =>
      cases d with
      | int j =>
        have ev := RepV.int (.rep s1.rep : RepV X.K FA F1 H1 x _)
        subst ev
        cases e2 : getE env1 i with
        | none => rw [e2] at post; exact False.elim post
        | some o =>
          rw [e2] at post
          cases o with
          | z d => exact False.elim post
          | t os => exact False.elim post
          | l os =>
            have post : Post X.K FA CA W w (pureX (.popAt i k)) σ F1 H1 ts Q (match (if lenOk os then L2.ixN os.length j else none) with | some q => (match os[q]? with | some o => .ok o (env1.set i (some (.l (os.eraseIdx q)))) | none => .no) | none => .no) := post
            have hlen : lenOk os = true ∨ lenOk os = false := by cases lenOk os <;> simp
            rcases hlen with hlen | hlen
            rotate_left
            · rw [hlen] at post; exact False.elim post
            rw [hlen] at post
            have post : Post X.K FA CA W w (pureX (.popAt i k)) σ F1 H1 ts Q (match L2.ixN os.length j with | some q => (match os[q]? with | some o => .ok o (env1.set i (some (.l (os.eraseIdx q)))) | none => .no) | none => .no) := post
            have hlen2 : os.length < 2 ^ 20 := of_decide_eq_true (show decide (os.length < 2 ^ 20) = true from hlen)
            cases e3 : L2.ixN os.length j with
            | none => rw [e3] at post; exact False.elim post
            | some q =>
              rw [e3] at post
              have post : Post X.K FA CA W w (pureX (.popAt i k)) σ F1 H1 ts Q (match os[q]? with | some o => .ok o (env1.set i (some (.l (os.eraseIdx q)))) | none => .no) := post
              cases e4 : os[q]? with
              | none => rw [e4] at post; exact False.elim post
              | some o =>
                rw [e4] at post
                obtain ⟨v, e5, s2⟩ := s1.tail.take hl1 e2
                rw [e1] at e5
                obtain rfl : V.ref a = v := by simpa using e5
                obtain ⟨a', vs, ea, hv, hvl⟩ := s2.own
                cases ea
                obtain ⟨y, e6, s3⟩ := s2.erase hv e4
                obtain ⟨q1, q2, q3, q4⟩ := ixN_seq e3
                refine ⟨a, vs, j, q, y, rfl, rfl, hv, by omega, by omega, by rw [hvl]; exact q1, e6, ?_⟩
                have s4 := s3.perm ((List.Perm.swap _ _ _).trans (List.Perm.cons _ List.perm_middle.symm))
                have s5 := (Hs.back hl1 e1 s4).ofTemp
                exact post y _ F1 (by rw [List.length_set]; exact hl1) s5 (Sub.refl _) fun z => nomatch (show false = true from z)
      | _ => exact False.elim post
/-! ### a lambda is made -/
theorem clo_nil {cells : List (Str × Addr)} : ∀ {names : List (Str × NameKind)} {acc : List (Str × Addr)}, (∀ y ∈ names, y.2 ≠ .free) → cloFrom cells names acc = acc
  | [], _, _ => rfl
  | (n, k) :: r, acc, h => by
    have hk : ¬ (k == NameKind.free) = true := fun z => h (n, k) List.mem_cons_self (by simpa using z)
    unfold cloFrom
    rw [if_neg hk]
    exact clo_nil fun y m => h y (List.mem_cons_of_mem _ m)
theorem track_lam {pins : List (Addr × Obj)} {s : Shared} {L : LamD} {d : Addr} {pm ctv : Value} {t' : Nat} (I : Inv X pins σ H s) :
    Inv X pins σ (upd H s.heap.objs.size (LamO s.heap.objs.size d L pm ctv)) { s with heap := s.heap.push { cls := .type "function", data := .func (L.fd d pm ctv) }, toks := t' } := by
  have e : (s.heap.push ({ cls := .type "function", data := .func (L.fd d pm ctv) } : Obj)).get? s.heap.objs.size = some ({ cls := .type "function", data := .func (L.fd d pm ctv) } : Obj) := Heap.get?_push_size _ rfl
  exact I.laid (fun b u q => Heap.get?_push_of_some _ q) (Nat.le_refl _) ⟨⟨_, _, e⟩, ⟨_, e⟩, fun h1 h2 ⟨od, sl, z⟩ st => ⟨od, sl, st _ z⟩⟩
theorem lam_mk {pins : List (Addr × Obj)} {s : Shared} {T : List (Addr × Str)} {c P : Addr} {L : LamD} {pos : Pos} {E : Value → Shared → Prop} {Qv : Value → Shared → Prop} (I : Inv X pins σ H s) (tb : LamX.TabB X.base X.mg c P) (ec : X.env.code = .ref c)
    (hq : L.qual = X.env.qual ++ "<lambda>") (mem : (P, L.qual) ∈ T) (one : ∀ p ∈ T, p.1 = P → p.2 = L.qual) (tT : LamX.Tabs T H) (hd : defaultsOf L.params X.env = ([], [])) (nf : ∀ y ∈ L.scope.names, y.2 ≠ .free)
    (k : ∀ f d pm ctv H1 s', Inv X pins σ H1 s' → (∀ b, b ≠ f → b ≠ d → b ≠ P → H1 b = H b) → LamX.Tabs T H1 → (∃ ps, H P = some (.tbl ps)) → H f = none → H1 f = some (LamO f d L pm ctv) → H1 d = some (LamX.CodeO d L.qual) → (H d = none ∨ H d = H1 d) → f ≠ d → Qv (.ref f) s') :
    wpAny (model X.prog X.w) X.A (eval (.Lambda L.params L.body L.scope pos) X.env) Qv E s := by
  obtain ⟨ps, tP, tr, tc⟩ := tT _ mem
  have clos : closureFor L.scope X.env = pure [] := by
    rw [closure_ok (env := X.env) (scope := L.scope) fun y m e => absurd e (nf y m), clo_nil nf]
  have objP : s.heap.get? P = some { cls := .none, data := .fields ps } := I.hok P _ tP
  refine PySem.W.kla_eval hd ?_
  rw [← hq]
  cases look : codeAmong pos ps.toList with
  | some cv =>
    obtain ⟨d, rfl, ed⟩ := tc pos cv look
    refine PySem.W.kla_makeFunctionHit (mg := X.mg) (c := c) (P := P) (ps := ps) clos I.ok.glob (I.mod.glob.keeps I.bk) ec (tb.code.keeps I.bk) objP tr look (tb.bm.keeps I.bk) fun ctv h' tk keep size => ?_
    have I1 : Inv X pins σ H { s with heap := h', toks := tk } := I.kept keep
    have new : H h'.objs.size = none := I1.hok.fresh (Nat.le_refl _)
    have I2 := track_lam (L := L) (d := d) (pm := (X.mg "__name__").getD .none) (ctv := ctv) (t' := tk) I1
    have nd : d ≠ h'.objs.size := ne_of_none ed new
    have old : ∀ b o, H b = some o → upd H h'.objs.size (LamO h'.objs.size d L ((X.mg "__name__").getD .none) ctv) b = some o := fun b o e => by rw [upd_ne (ne_of_none e new)]; exact e
    exact k h'.objs.size d _ ctv _ _ I2 (fun b z _ _ => upd_ne z) (tT.ext old) ⟨ps, tP⟩ new upd_same (old _ _ ed) (.inr (by rw [ed, old _ _ ed])) (Ne.symm nd)
  | none =>
    refine PySem.W.kla_makeFunction (mg := X.mg) (c := c) (P := P) (ps := ps) clos I.ok.glob (I.mod.glob.keeps I.bk) ec (tb.code.keeps I.bk) objP tr look tb.gP (tb.bm.keeps I.bk) fun d ctv h' tk keep ge lt rec tab => ?_
    obtain ⟨d2, oc, vs, t, e2, o1, o2, o3⟩ := rec
    cases e2
    have newD : H d = none := I.hok.fresh ge
    have I1 := LamX.inv_table (t' := tk) (more := #[rawInt pos.line, rawInt pos.col, .ref d]) (h' := h') I tP (fun b o z e => keep b o z e) tab ge ⟨oc, vs, t, o1, o2, o3⟩
    have newF := I1.hok.fresh (a := h'.objs.size) (Nat.le_refl _)
    have I2 := track_lam (L := L) (d := d) (pm := (X.mg "__name__").getD .none) (ctv := ctv) (t' := tk) I1
    have nPd : P ≠ d := ne_of_none tP newD
    have nfd : h'.objs.size ≠ d := Nat.ne_of_gt lt
    generalize hH1 : upd (upd H P (.tbl (ps ++ #[rawInt pos.line, rawInt pos.col, .ref d]))) d (LamX.CodeO d L.qual) = H1 at I1 newF I2
    have atD : H1 d = some (LamX.CodeO d L.qual) := by rw [← hH1]; exact upd_same
    have atP : H1 P = some (.tbl (ps ++ #[rawInt pos.line, rawInt pos.col, .ref d])) := by rw [← hH1, upd_ne nPd]; exact upd_same
    have rest : ∀ b, b ≠ d → b ≠ P → H1 b = H b := fun b z1 z2 => by rw [← hH1, upd_ne z1, upd_ne z2]
    have keepN : ∀ b o, H b = some o → (∀ ps, o ≠ .tbl ps) → H1 b = some o := fun b o e n => by
      rw [rest b (ne_of_none e newD) (fun z => by rw [z, tP] at e; cases e; exact n _ rfl)]; exact e
    have old : ∀ b o, H1 b = some o → upd H1 h'.objs.size (LamO h'.objs.size d L ((X.mg "__name__").getD .none) ctv) b = some o := fun b o e => by rw [upd_ne (ne_of_none e newF)]; exact e
    have newF0 : H h'.objs.size = none := I.hok.fresh (Nat.le_trans ge (Nat.le_of_lt lt))
    have T1 : LamX.Tabs T H1 := fun p hp => by
      by_cases z : p.1 = P
      · have eL : (ps ++ #[rawInt pos.line, rawInt pos.col, .ref d]).toList = ps.toList ++ [rawInt pos.line, rawInt pos.col, .ref d] := by simp
        rw [z, one p hp z]
        refine ⟨_, atP, by rw [eL]; exact PySem.TriplesOk_snoc _ _ _ _ tr, fun p' cv hcv => ?_⟩
        rw [eL] at hcv
        rcases LamX.among_app _ tr hcv with y | y
        · obtain ⟨c0, y1, y2⟩ := tc p' cv y
          exact ⟨c0, y1, keepN _ _ y2 LamX.codeO_ne⟩
        · exact ⟨d, y, atD⟩
      · obtain ⟨ps', y1, y2, y3⟩ := tT p hp
        refine ⟨ps', by rw [rest _ (ne_of_none y1 newD) z]; exact y1, y2, fun p' cv hcv => ?_⟩
        obtain ⟨c0, x1, x2⟩ := y3 p' cv hcv
        exact ⟨c0, x1, keepN _ _ x2 LamX.codeO_ne⟩
    exact k h'.objs.size d _ ctv _ _ I2 (fun b z1 z2 z3 => by rw [upd_ne z1, rest b z2 z3]) (T1.ext old) ⟨ps, tP⟩ newF0 upd_same (old _ _ atD) (.inl newD) nfd
theorem c_lam {k : Nat} {params : Arguments} {body : Expr} {scope : Scope} {pos : Pos} (m : MkOk Nm FA X w) (hk : Nm.lamB k params scope body = true) : PE X (.Lambda params body scope pos) (tE X.K FA CA W w C (.lam k [])) := by
  refine ⟨fun pins s σ H Q I h => ?_⟩
  obtain ⟨F, ts, env, hl, s0, post⟩ := h
  unfold evalE at post
  obtain ⟨c, P, ec, tb, m1, m2, m3⟩ := m.tab
  obtain ⟨l1, l2, l3⟩ := m.ml k params scope body hk
  have hr := s0.1
  refine lam_mk (L := ⟨X.env.qual ++ "<lambda>", params, body, scope⟩) I tb ec rfl m1 m2 hr.tabs (l3 _) l2 fun f d pm ctv H1 s' I1 rest T1 ⟨ps, tP⟩ nF eF eD oD nfd => ?_
  have post : Post X.K FA CA W w (pureX (.lam k [])) σ F H ts Q (.ok (.z (.clo k [])) env) := post
  have Ff : F f = none := by
    cases e : F f with
    | none => rfl
    | some o => rw [hr.sub _ _ e] at nF; cases nF
  have Fd : ∀ o, F d = some o → o = LamX.CodeO d (X.env.qual ++ "<lambda>") := fun o e => by
    have e1 := hr.sub _ _ e
    rcases oD with z | z
    · rw [z] at e1; cases e1
    · rw [z, eD] at e1; exact (Option.some.inj e1).symm
  have nP : ∀ b o, H b = some o → (∀ ps, o ≠ .tbl ps) → b ≠ P := fun b o e n z => by rw [z, tP] at e; cases e; exact n _ rfl
  have old : ∀ b o, H b = some o → (∀ ps, o ≠ .tbl ps) → H1 b = some o := fun b o e n => by
    by_cases z : b = d
    · rcases oD with y | y
      · rw [z, y] at e; cases e
      · rw [z] at e ⊢; rw [← y]; exact e
    · rw [rest b (ne_of_none e nF) z (nP b o e n)]; exact e
  let F1 : Hp := upd (upd F d (LamX.CodeO d (X.env.qual ++ "<lambda>"))) f (LamO f d ⟨X.env.qual ++ "<lambda>", params, body, scope⟩ pm ctv)
  have F1f : F1 f = some (LamO f d ⟨X.env.qual ++ "<lambda>", params, body, scope⟩ pm ctv) := upd_same
  have F1d : F1 d = some (LamX.CodeO d (X.env.qual ++ "<lambda>")) := by show upd (upd F d _) f _ d = _; rw [upd_ne (Ne.symm nfd)]; exact upd_same
  have F1o : ∀ b, b ≠ f → b ≠ d → F1 b = F b := fun b z1 z2 => by show upd (upd F d _) f _ b = _; rw [upd_ne z1, upd_ne z2]
  have sF : Sub F F1 := fun b o e => by
    by_cases z1 : b = f
    · rw [z1, Ff] at e; cases e
    · by_cases z2 : b = d
      · rw [z2] at e ⊢; rw [F1d, Fd o e]
      · rw [F1o b z1 z2]; exact e
  have lamN : ∀ xs, LamO f d ⟨X.env.qual ++ "<lambda>", params, body, scope⟩ pm ctv ≠ .lst xs := fun xs z => by unfold LamO at z; cases z
  have codN : ∀ xs, LamX.CodeO d (X.env.qual ++ "<lambda>") ≠ .lst xs := fun xs z => by unfold LamX.CodeO at z; cases z
  have codT : ∀ xs, LamX.CodeO d (X.env.qual ++ "<lambda>") ≠ .tup xs := fun xs z => by unfold LamX.CodeO at z; cases z
  have lamT : ∀ xs, LamO f d ⟨X.env.qual ++ "<lambda>", params, body, scope⟩ pm ctv ≠ .tup xs := fun xs z => by unfold LamO at z; cases z
  have lamB : ∀ xs, LamO f d ⟨X.env.qual ++ "<lambda>", params, body, scope⟩ pm ctv ≠ .tbl xs := fun xs z => by unfold LamO at z; cases z
  obtain ⟨psP, eP, _⟩ := T1 _ m1
  have hr1 : HR w F1 H1 := by
    refine ⟨fun b o e => ?_, hr.sub0.trans sF, fun b o e => ?_, fun b o e mm => ?_, fun b e => ?_, fun b xs e => ?_, T1, fun b xs e => ?_⟩
    · by_cases z1 : b = f
      · rw [z1] at e ⊢; rw [eF, ← F1f]; exact e
      · by_cases z2 : b = d
        · rw [z2] at e ⊢; rw [eD, ← F1d]; exact e
        · rw [F1o b z1 z2] at e
          exact old b o (hr.sub _ _ e) fun xs z => hr.ntb b xs (by rw [e, z])
    · by_cases z1 : b = f
      · exact .inr (.inl (hr.dom b (by rw [z1]; exact nF)))
      · by_cases z2 : b = d
        · rw [z2] at e ⊢
          rw [F1d] at e
          obtain rfl := Option.some.inj e
          rcases oD with y | y
          · exact .inr (.inl (hr.dom d y))
          · cases q : w.H0 d with
            | none => exact .inr (.inl rfl)
            | some o' =>
              by_cases mm : d ∈ w.M
              · exact .inr (.inr (.inl mm))
              · have e1 := hr.keep d o' q mm
                rw [y, eD] at e1
                exact .inr (.inr (.inr ⟨e1.symm, codN⟩))
        · rw [F1o b z1 z2] at e; exact hr.new b o e
    · have e1 := hr.keep b o e mm
      by_cases z2 : b = d
      · rcases oD with y | y
        · rw [z2, y] at e1; cases e1
        · rw [z2] at e1 ⊢; rw [← y]; exact e1
      · rw [rest b (ne_of_none e1 nF) z2 (fun z => mm (z ▸ m3))]; exact e1
    · refine hr.dom b ?_
      rw [← rest b (fun z => by rw [z, eF] at e; cases e) (fun z => by rw [z, eD] at e; cases e) (fun z => by rw [z, eP] at e; cases e)]
      exact e
    · have z1 : b ≠ f := fun z => by rw [z, eF] at e; exact lamT _ (Option.some.inj e)
      have z2 : b ≠ d := fun z => by rw [z, eD] at e; exact codT _ (Option.some.inj e)
      have z3 : b ≠ P := fun z => by rw [z, eP] at e; cases e
      rw [rest b z1 z2 z3] at e
      exact sF _ _ (hr.tups b xs e)
    · by_cases z1 : b = f
      · rw [z1, F1f] at e; exact lamB _ (Option.some.inj e)
      · by_cases z2 : b = d
        · rw [z2, F1d] at e; exact LamX.codeO_ne _ (Option.some.inj e)
        · rw [F1o b z1 z2] at e; exact hr.ntb b xs e
  have tp : Tups H H1 := fun b xs e => old b _ e fun ps z => by cases z
  have s1 : Hs X.K FA w F1 H1 (lv σ env ++ ts) := by
    obtain ⟨_, A, rA, nd, q⟩ := s0
    refine ⟨hr1, A, rA.frame sF (fun a ma => ?_) tp, nd, fun a ma => ⟨?_, (q a ma).2⟩⟩
    · obtain ⟨xs, e⟩ := rA.dom a ma
      rw [e]; exact old a _ e fun ps z => by cases z
    · obtain ⟨xs, e⟩ := rA.dom a ma
      rw [F1o a (ne_of_none e nF) (fun z => by
        rcases oD with y | y
        · rw [z, y] at e; cases e
        · rw [z, y, eD] at e; exact codN _ (Option.some.inj e))]
      exact (q a ma).1
  exact ⟨.ref f, H1, I1, rfl, post (.ref f) H1 F1 hl (s1.add (.clo l1 F1f F1d)) sF fun z => nomatch (show false = true from z)⟩
end
end RF
/-! RFp: every expression. -/
namespace RF
open L2 PySem PySem.Spec PyProof.Rows
section
variable {Nm : Names} {FA : Fns} {CA : Nat → Option Addr} {C : Cfg} {X : Cx} {W : WX} {w : W0} {sc : Scope}
theorem lookup_rel_free {sc : Scope} : ∀ {names : List (Str × NameKind)} {x : Str}, names.lookup x = some .free →
    (names.map fun (n, k) => if (k == NameKind.free && sc.kind == .function && sc.names.lookup n == some .cell) then (n, NameKind.cell) else (n, k)).lookup x = some .cell ∨
    (names.map fun (n, k) => if (k == NameKind.free && sc.kind == .function && sc.names.lookup n == some .cell) then (n, NameKind.cell) else (n, k)).lookup x = some .free
  | [], _, h => by simp at h
  | (n, k₀) :: r, x, h => by
    have ih := @lookup_rel_free sc r x
    show List.lookup x ((if (k₀ == NameKind.free && sc.kind == .function && sc.names.lookup n == some .cell) = true then (n, NameKind.cell) else (n, k₀)) :: (r.map _)) = some .cell ∨
      List.lookup x ((if (k₀ == NameKind.free && sc.kind == .function && sc.names.lookup n == some .cell) = true then (n, NameKind.cell) else (n, k₀)) :: (r.map _)) = some .free
    cases hx : x == n with
    | true =>
      simp only [List.lookup_cons, hx] at h
      cases h
      by_cases hc : (NameKind.free == NameKind.free && sc.kind == .function && sc.names.lookup n == some .cell) = true
      · rw [if_pos hc]; left; simp only [List.lookup_cons, hx]
      · rw [if_neg hc]; right; simp only [List.lookup_cons, hx]
    | false =>
      simp only [List.lookup_cons, hx] at h
      by_cases hc : (k₀ == NameKind.free && sc.kind == .function && sc.names.lookup n == some .cell) = true
      · rw [if_pos hc]; simp only [List.lookup_cons, hx]; exact ih h
      · rw [if_neg hc]; simp only [List.lookup_cons, hx]; exact ih h
theorem ScR.blk {sc' : Scope} {s : Shared} {H : Hp} {C' : Addr} {cl : List (Str × Addr)} {fp : List Addr} : ScR (X.blk s H sc' (compEnvC sc' cl C' X.env) fp) sc' where
  loc x h := lookup_relabel_local h
  cell x h := ⟨lookup_relS_keep (sc := X.env.scope) (by decide) h, by show (sc'.names.lookup x == some .cell) = true; rw [show sc'.names.lookup x = some .cell from h]; rfl⟩
  free x h := lookup_rel_free (sc := X.env.scope) h
  glob x h := lookup_relS_keep (sc := X.env.scope) (by decide) h
theorem ScM.blk {sc' : Scope} {s : Shared} {H : Hp} {C' : Addr} {cl : List (Str × Addr)} {fp : List Addr} (q : ScM Nm FA X w sc) : ScM Nm FA (X.blk s H sc' (compEnvC sc' cl C' X.env) fp) w sc' where
  toScR := ScR.blk
  mks m := ⟨(q.mks m).tab, (q.mks m).ml⟩
theorem blkOk_sc {sc' : Scope} {own : List (Str × Nat)} {N : List Str} (r : ScR X sc) (h : blkC N sc sc' own = true) : BlkOk N X.env.scope sc' own := by
  have b := blkOk_by h
  refine ⟨b.kind, b.uniq, b.ix, fun y hy e => ?_, b.own⟩
  rcases b.free y hy e with z | z
  · exact .inl (r.cell _ z).1
  · exact r.free _ z
theorem isEs_len {N : List Str} : ∀ {es : Xs} {us : List Expr}, isEs Nm N es sc us = true → xsLen es = us.length
  | .nil, [], _ => rfl
  | .nil, _ :: _, h => by simp [isEs] at h
  | .cons _ _, [], h => by simp [isEs] at h
  | .cons e es, u :: us, h => by
    have h' : isE Nm N e sc u = true ∧ isEs Nm N es sc us = true := by simpa [isEs] using h
    show xsLen es + 1 = us.length + 1
    rw [isEs_len h'.2]
abbrev Both (FA : Fns) (CA : Nat → Option Addr) (C : Cfg) (X : Cx) (W : WX) (w : W0) (m : RF.X) (e : Expr) : Prop := PE X e (tE X.K FA CA W w C m) ∧ PT X e (tTest (tE X.K FA CA W w C m))
theorem i_andX {es : Xs} : ∀ σ H Q, tE X.K FA CA W w C (.and es) σ H Q → tAn X.K FA CA W w C es σ H Q := fun σ H Q ⟨F, ts, env, hl, s, post⟩ => ⟨F, ts, env, hl, s, by unfold evalE at post; exact post⟩
theorem i_orX {es : Xs} : ∀ σ H Q, tE X.K FA CA W w C (.or es) σ H Q → tOr X.K FA CA W w C es σ H Q := fun σ H Q ⟨F, ts, env, hl, s, post⟩ => ⟨F, ts, env, hl, s, by unfold evalE at post; exact post⟩
theorem no_and {us : List Expr} {pos : Pos} : PE X (.BoolOp .And us pos) (tAn X.K FA CA W w C .nil) ∧ PW X (.BoolOp .And us pos) (tTest (tAn X.K FA CA W w C .nil)) :=
  ⟨⟨fun _ _ _ _ _ _ ⟨_, _, _, _, _, post⟩ => by unfold evalAnd at post; exact False.elim post⟩, ⟨fun _ _ _ _ _ _ _ ⟨_, _, _, _, _, post⟩ => by unfold evalAnd at post; exact False.elim post⟩⟩
theorem no_or {us : List Expr} {pos : Pos} : PE X (.BoolOp .Or us pos) (tOr X.K FA CA W w C .nil) ∧ PW X (.BoolOp .Or us pos) (tTest (tOr X.K FA CA W w C .nil)) :=
  ⟨⟨fun _ _ _ _ _ _ ⟨_, _, _, _, _, post⟩ => by unfold evalOr at post; exact False.elim post⟩, ⟨fun _ _ _ _ _ _ _ ⟨_, _, _, _, _, post⟩ => by unfold evalOr at post; exact False.elim post⟩⟩
theorem ands {a b : Bool} (h : (a && b) = true) : a = true ∧ b = true := Bool.and_eq_true_iff.mp h
theorem c_g (c : Cok Nm FA CA C X W) (r : ScR X sc) {f : Nat} {x : Str} {pos : Pos} (hf : Nm.fn f = some x) (hg : glB sc x = true) : PE X (.Name x pos) (tE X.K FA CA W w C (.g f)) := by
  obtain ⟨a, e⟩ := c.has f x hf
  obtain ⟨x', k, fd, e2, e3, e4, _⟩ := c.fns f a e
  rw [hf] at e2; cases e2
  obtain ⟨g1, g2⟩ := glB_ok r hg
  exact c_const (v := .ref a) (pe_glob g1 e3 rfl g2) (fun env => by unfold evalE; rfl) fun F => .fn e
theorem c_gk (c : Cok Nm FA CA C X W) (r : ScR X sc) {j : Nat} {i : Int} {x : Str} {pos : Pos} (hf : Nm.kn j = some (x, i)) (hg : glB sc x = true) : PE X (.Name x pos) (tE X.K FA CA W w C (.gk j i)) := by
  obtain ⟨t, e⟩ := c.kns j x i hf
  obtain ⟨g1, g2⟩ := glB_ok r hg
  exact c_const (v := .int i) (pe_glob g1 e ⟨t, rfl⟩ g2) (fun env => by unfold evalE; rfl) fun F => .int i
theorem c_attr (c : Cok Nm FA CA C X W) (r : ScR X sc) {i : Nat} {x f : Str} {p pos : Pos} (hf : (f == "value") = true) (hv : visB X.N sc i x = true) : PE X (.Attribute (.Name x p) f pos) (tE X.K FA CA W w C (.attr i)) := by
  obtain rfl : f = "value" := by simpa using hf
  refine PE.imp (RX.pe_xk (pe_slot (pos := p) r hv) (by rfl)) fun σ H Q ⟨F, ts, env, hl, s, post⟩ => ?_
  unfold evalE at post
  split at post
  · rename_i k d eg
    obtain ⟨v, e1, rp⟩ := s.slotRep hl eg
    cases rp with
    | exc h1 h2 h3 h4 =>
      obtain ⟨⟨fI, cc, Fn, ini⟩, xf, _⟩ := c.clf _ _ h1
      exact ⟨_, e1, _, _, _, _, _, rfl, s.1.sub _ _ h2, xf, ini.val, s.1.sub _ _ h3, by simp [List.lookup], post.z hl s h4⟩
  · exact False.elim post
theorem c_isc (c : Cok Nm FA CA C X W) (r : ScR X sc) {k i : Nat} {x y z : Str} {p p1 p2 pos : Pos} (hx : (x == "isinstance") = true) (hg : glB sc x = true) (hv : visB X.N sc i y = true) (hk : Nm.cl k = some z) (hgz : glB sc z = true) :
    PE X (.Call (.Name x p) [.Name y p1, .Name z p2] [] pos) (tE X.K FA CA W w C (.isc k i)) := by
  obtain rfl : x = "isinstance" := by simpa using hx
  obtain ⟨g1, g2⟩ := glB_ok r hg
  obtain ⟨z1, z2⟩ := glB_ok r hgz
  obtain ⟨b, hb, mb⟩ := c.cls k z hk
  have pz : PE X (.Name z p2) (tC (.ref b)) := pe_glob z1 mb rfl z2
  refine PE.imp (pe_callB RX.call_isK g1 (c.blt _ (by decide)) boot_isinstance (pa_cons (pe_slot (pos := p1) r hv) (pa_cons pz pa_nil))) fun σ H Q ⟨F, ts, env, hl, s, post⟩ => ?_
  unfold evalE at post
  split at post
  · rename_i j d eg
    obtain ⟨v, e1, rp⟩ := s.slotRep hl eg
    cases rp with
    | exc h1 h2 h3 h4 =>
      have ks := c.isc _ _ _ _ h1 hb
      exact ⟨_, e1, _, _, _, _, .ref b, .ref b, (j == k), rfl, s.1.sub _ _ h2, s.1.sub _ _ h3, (c.clf _ _ h1).ex, fun u q => q, ks, post.z hl s (.bl _)⟩
  · exact False.elim post
theorem seen_ok {i : Nat} {F H : Hp} {ts : List (Option V × O)} {env : Env} {d : D} {env1 : Env} (hl : env.length = σ.length) (s : Hs X.K FA w F H (lv σ env ++ ts)) (e : seen env i = .ok d env1) : env1 = env ∧ ∃ v, σ[i]? = some (some v) ∧ RepV X.K FA F H v d := by
  unfold seen at e
  cases q : getE env i with
  | none => rw [q] at e; cases e
  | some o =>
    rw [q] at e
    cases o with
    | z d' =>
      obtain ⟨v, e1, rp⟩ := s.slotRep hl q
      cases e
      exact ⟨rfl, v, e1, .rep rp⟩
    | l os =>
      obtain ⟨v, e1, s1⟩ := s.take hl q
      obtain ⟨A, ra⟩ := s1.head
      have e : (if (O.l os).flat then R.ok (O.l os).toD env else .no) = .ok d env1 := e
      split at e
      · rename_i hf
        cases e
        exact ⟨rfl, v, e1, ra.viewV s1.1.tups hf⟩
      · cases e
    | t os =>
      obtain ⟨v, e1, s1⟩ := s.take hl q
      obtain ⟨A, ra⟩ := s1.head
      have e : (if (O.t os).flat then R.ok (O.t os).toD env else .no) = .ok d env1 := e
      split at e
      · rename_i hf
        cases e
        exact ⟨rfl, v, e1, ra.viewV s1.1.tups hf⟩
      · cases e
theorem idxI_ok {ds : List D} {k : Int} {j : Nat} (e : idxI ds k = some j) : ∃ ns, ints? ds = some ns ∧ k ∈ ns ∧ j = ns.idxOf k := by
  unfold idxI at e
  cases q : ints? ds with
  | none => rw [q] at e; cases e
  | some ns =>
    rw [q, Option.bind_some] at e
    split at e
    · rename_i hm; cases e; exact ⟨ns, rfl, hm, rfl⟩
    · cases e
theorem idx_first {ns : List Int} {k n : Int} {m : Nat} (h : m < ns.idxOf k) (e : ns[m]? = some n) : n ≠ k := by
  obtain ⟨hl, rfl⟩ := List.getElem?_eq_some_iff.mp e
  unfold List.idxOf at h
  simpa using List.not_of_lt_findIdx h
theorem c_idx (c : Cok Nm FA CA C X W) (r : ScR X sc) {i : Nat} {b : RF.X} {x m : Str} {px p q : Pos} {u : Expr} (hm : (m == "index") = true) (hln : (p.endLine == q.line) = true) (hv : visB X.N sc i x = true) (hi : isE Nm X.N b sc u = true) (hp : pureX b = true) (he : PE X u (tE X.K FA CA W w C b)) :
    PE X (.Call (.Attribute (.Name x px) m p) [u] [] q) (tE X.K FA CA W w C (.idx i b)) := by
  obtain rfl : m = "index" := by simpa using hm
  refine PE.imp (pe_bm (T := "list") PySem.F.plainAttrs_list PySem.F.slot_list_index PySem.F.type_list_index mt_index (pe_slot (pos := px) r hv) (pa_cons he pa_nil (star_cons hi)) (by rfl) (by rw [star_cons hi]; rfl) hln (star_cons hi) (by rfl)) fun σ H Q ⟨F, ts, env, hl, s, post⟩ => ?_
  unfold evalE at post
  cases e0 : seen env i with
  | ex k ds => unfold seen at e0; split at e0 <;> first | cases e0 | (split at e0 <;> cases e0)
  | no => rw [e0] at post; exact False.elim post
  | ok d env1 =>
    obtain ⟨rfl, v, e1, rv⟩ := seen_ok hl s e0
    rw [e0, R.bind_ok] at post
    cases d with
    | lst ds =>
      obtain ⟨a, us, rfl, h1, r1⟩ := rv.lst s.1.sub
      refine ⟨_, e1, .inl ⟨rfl, _, .of h1⟩, F, ts, env1, hl, s, ?_⟩
      refine bindE (pu1 := pureX b) post fun o env2 y H1 F1 _ hl1 s1 sF1 p1 post => ?_
      have post := post.rebase sF1 fun _ => (p1 hp).1
      have rv1 := rv.mono sF1 (p1 hp).1
      cases o with
      | z dk =>
        cases dk with
        | int k' =>
          obtain rfl := RepV.int (.rep s1.rep : RepV X.K FA F1 H1 y _)
          have post : Post X.K FA CA W w (pureX (.idx i b)) σ F1 H1 ts Q (ofOpt ((idxI ds k').map fun j => O.z (.int (j : Nat))) env2) := post
          cases q : idxI ds k' with
          | none => rw [q] at post; exact False.elim post
          | some j =>
            rw [q] at post
            obtain ⟨ns, en, hmem, rfl⟩ := idxI_ok q
            obtain ⟨a2, us2, hv2, h2, r2⟩ := rv1.lst s1.1.sub
            cases hv2
            obtain ⟨rfl, _⟩ := r2.of_ints en
            have hj : ns.idxOf k' < ns.length := List.idxOf_lt_length_of_mem hmem
            refine ⟨a, _, .int k', ns.idxOf k', .int k', rfl, rfl, .of h2, rfl, by simp [flatV], ?_, by simp [eqV], fun m z hlt hz => ?_, post.z hl1 s1.tail (.int _)⟩
            · rw [List.getElem?_map, List.getElem?_eq_getElem hj, List.getElem_idxOf hj]; rfl
            · rw [List.getElem?_map] at hz
              cases hq : ns[m]? with
              | none => rw [hq] at hz; cases hz
              | some n =>
                rw [hq] at hz
                obtain rfl : V.int n = z := by simpa using hz
                have hne : n ≠ k' := idx_first hlt hq
                simp [eqV, hne]
        | _ => exact False.elim post
      | _ => exact False.elim post
    | _ => exact False.elim post
theorem ix1_at {j : Int} {d e : D} {v : V} {H : Hp} {Q : VK} (r : Rep X.K FA H v d) (q : ix1V d j = some e) (h : ∀ u, Rep X.K FA H u e → Q u H) : rIx X.K v (.int j) H Q := by
  unfold ix1V at q
  split at q
  · rename_i ds
    cases r with
    | lst h1 r1 =>
      unfold atI at q
      cases e1 : ixN ds.length j with
      | none => rw [e1] at q; cases q
      | some k =>
        rw [e1] at q
        obtain ⟨u, e2, r2⟩ := r1.get (show ds[k]? = some e from q)
        exact .inl ⟨_, _, j, u, rfl, rfl, .of h1, by unfold atI; rw [r1.length, e1]; exact e2, h u r2⟩
  · rename_i ds
    cases r with
    | tup h1 r1 =>
      unfold atI at q
      cases e1 : ixN ds.length j with
      | none => rw [e1] at q; cases q
      | some k =>
        rw [e1] at q
        obtain ⟨u, e2, r2⟩ := r1.get (show ds[k]? = some e from q)
        exact .inr (.inl ⟨_, _, j, u, rfl, rfl, .of h1, by unfold atI; rw [r1.length, e1]; exact e2, h u r2⟩)
  · cases q
theorem c_ix2 (r : ScR X sc) {i : Nat} {a b : RF.X} {x : Str} {px p1 p2 : Pos} {ka kb : Expr} (hv : visB X.N sc i x = true) (hia : isE Nm X.N a sc ka = true) (hib : isE Nm X.N b sc kb = true) (hpa : pureX a = true) (hpb : pureX b = true)
    (ha : PE X ka (tE X.K FA CA W w C a)) (hb : PE X kb (tE X.K FA CA W w C b)) : PE X (.Subscript (.Subscript (.Name x px) ka p1) kb p2) (tE X.K FA CA W w C (.ix2 i a b)) := by
  refine PE.imp (pe_ix ix_seq (pe_ix ix_seq (pe_slot r hv) ha (plainIx hia)) hb (plainIx hib)) fun σ H Q ⟨F, ts, env, hl, s, post⟩ => ?_
  unfold evalE at post
  cases eg : getE env i with
  | none => rw [eg] at post; exact False.elim post
  | some o =>
    rw [eg] at post
    obtain ⟨v, e1, rv⟩ := s.slotView hl eg
    refine ⟨v, e1, F, ts, env, hl, s, ?_⟩
    refine bindE (pu1 := pureX a) post fun o1 env1 y H1 F1 _ hl1 s1 sF1 q1 post => ?_
    have post := post.rebase sF1 fun _ => (q1 hpa).1
    have rv1 := rv.mono (q1 hpa).1
    cases o1 with
    | z d1 =>
      cases d1 with
      | int j =>
        obtain rfl := RepV.int (.rep s1.rep : RepV X.K FA F1 H1 y _)
        have post : Post X.K FA CA W w (pureX (.ix2 i a b)) σ F1 H1 ts Q (match ix1V o.toD j with
          | some e => (evalE C b env1).bind fun y env2 => match y with
            | .z (.int k) => ofOpt ((ix1L e k).map .z) env2
            | _ => .no
          | none => .no) := post
        cases ei : ix1V o.toD j with
        | none => rw [ei] at post; exact False.elim post
        | some e =>
          rw [ei] at post
          refine ix1_at rv1 ei fun u ru => ⟨F1, ts, env1, hl1, s1.tail, ?_⟩
          refine bindE (pu1 := pureX b) post fun o2 env2 y2 H2 F2 _ hl2 s2 sF2 q2 post => ?_
          have post := post.rebase sF2 fun _ => (q2 hpb).1
          have ru2 := ru.mono (q2 hpb).1
          cases o2 with
          | z d2 =>
            cases d2 with
            | int k =>
              obtain rfl := RepV.int (.rep s2.rep : RepV X.K FA F2 H2 y2 _)
              have post : Post X.K FA CA W w (pureX (.ix2 i a b)) σ F2 H2 ts Q (ofOpt ((ix1L e k).map .z) env2) := post
              cases ek : ix1L e k with
              | none => rw [ek] at post; exact False.elim post
              | some d3 =>
                rw [ek] at post
                unfold ix1L at ek
                cases ej : ix1V e k with
                | none => rw [ej] at ek; cases ek
                | some d4 =>
                  rw [ej, Option.bind_some] at ek
                  split at ek
                  · rename_i hlf
                    cases ek
                    exact ix1_at ru2 ej fun u3 ru3 => post.z hl2 s2.tail (ru3.lf s2.1.tups hlf)
                  · cases ek
            | _ => exact False.elim post
          | _ => exact False.elim post
      | _ => exact False.elim post
    | _ => exact False.elim post
mutual
theorem sE : ∀ (m : RF.X) {X : Cx} {W : WX} {sc : Scope} {e : Expr}, Cok Nm FA CA C X W → ScM Nm FA X w sc → isE Nm X.N m sc e = true → Both FA CA C X W w m e
  | .v i, X, W, sc, e, c, q, h => by
    have r := q.toScR
    unfold isE at h; split at h
    · exact ⟨c_v r h, pt_val (c_v r h)⟩
    · cases h
  | .non, X, W, sc, e, c, q, h => by
    have r := q.toScR
    unfold isE at h; split at h
    · have k : ∀ j pos, PE X (.Constant .none j pos) (tE X.K FA CA W w C .non) := fun j pos => c_const (d := .non) pe_non (fun env => by unfold evalE; rfl) fun F => .non
      exact ⟨k _ _, pt_val (k _ _)⟩
    · cases h
  | .tt b, X, W, sc, e, c, q, h => by
    have r := q.toScR
    unfold isE at h; split at h
    · obtain rfl := eq_of_beq h
      have k : ∀ j pos, PE X (.Constant (.bool b) j pos) (tE X.K FA CA W w C (.tt b)) := fun j pos => c_const (d := .bl b) pe_bl (fun env => by unfold evalE; rfl) fun F => .bl b
      exact ⟨k _ _, pt_val (k _ _)⟩
    · cases h
  | .n i, X, W, sc, e, c, q, h => by
    have r := q.toScR
    unfold isE at h; split at h
    · obtain rfl := of_decide_eq_true h
      have k : ∀ j pos, PE X (.Constant (.int i) j pos) (tE X.K FA CA W w C (.n i)) := fun j pos => c_const (d := .int i) pe_int (fun env => by unfold evalE; rfl) fun F => .int i
      exact ⟨k _ _, pt_val (k _ _)⟩
    · cases h
  | .s x, X, W, sc, e, c, q, h => by
    have r := q.toScR
    unfold isE at h; split at h
    · obtain rfl := of_decide_eq_true h
      have k : ∀ j pos, PE X (.Constant (.str x) j pos) (tE X.K FA CA W w C (.s x)) := fun j pos => c_const (d := .str x) pe_str (fun env => by unfold evalE; rfl) fun F => .str x
      exact ⟨k _ _, pt_val (k _ _)⟩
    · cases h
  | .g f, X, W, sc, e, c, q, h => by
    have r := q.toScR
    unfold isE at h; split at h
    · refine ⟨?k1, pt_val ?k1⟩
      exact c_g c r (of_decide_eq_true (ands h).1) (ands h).2
    · cases h
  | .gk j i, X, W, sc, e, c, q, h => by
    have r := q.toScR
    unfold isE at h; split at h
    · refine ⟨?k2, pt_val ?k2⟩
      exact c_gk c r (of_decide_eq_true (ands h).1) (ands h).2
    · cases h
  | .attr i, X, W, sc, e, c, q, h => by
    have r := q.toScR
    unfold isE at h; split at h
    · refine ⟨?k01, pt_val ?k01⟩
      exact c_attr c r (ands h).1 (ands h).2
    · cases h
  | .isc k i, X, W, sc, e, c, q, h => by
    have r := q.toScR
    unfold isE at h; split at h
    · have h1 := ands h
      have h2 := ands h1.1
      have h3 := ands h2.1
      have h4 := ands h3.1
      refine ⟨?k02, pt_val ?k02⟩
      exact c_isc c r h4.1 h4.2 h3.2 (of_decide_eq_true h2.2) h1.2
    · cases h
  | .idx i b, X, W, sc, e, c, q, h => by
    have r := q.toScR
    unfold isE at h; split at h
    · have h1 := ands h
      have h2 := ands h1.1
      have h3 := ands h2.1
      have h4 := ands h3.1
      refine ⟨?k03, pt_val ?k03⟩
      exact c_idx c r h4.1 h4.2 h3.2 h2.2 h1.2 (sE b c q h2.2).1
    · cases h
  | .ix2 i a b, X, W, sc, e, c, q, h => by
    have r := q.toScR
    unfold isE at h; split at h
    · have h1 := ands h
      have h2 := ands h1.1
      have h3 := ands h2.1
      refine ⟨?k04, pt_val ?k04⟩
      exact c_ix2 r h3.1 h3.2 h2.2 (ands h1.2).1 (ands h1.2).2 (sE a c q h3.2).1 (sE b c q h2.2).1
    · cases h
  | .lam f is, X, W, sc, e, c, q, h => by
    have r := q.toScR
    unfold isE at h; split at h
    · have h1 := ands h
      have h2 := ands h1.1
      have z : is = [] := by simpa using h2.2
      subst z
      refine ⟨?k0, pt_val ?k0⟩
      exact c_lam (q.mks h2.1) h1.2
    · cases h
  | .tup es, X, W, sc, e, c, q, h => by
    have r := q.toScR
    unfold isE at h; split at h
    · refine ⟨?k3, pt_val ?k3⟩
      exact c_tup (sEs es c q (ands h).1).1 (isEs_len (ands h).1) (of_decide_eq_true (ands h).2)
    · cases h
  | .lst es, X, W, sc, e, c, q, h => by
    have r := q.toScR
    unfold isE at h; split at h
    · refine ⟨?k4, pt_val ?k4⟩
      exact c_lst (sEs es c q (ands h).1).1 (isEs_len (ands h).1) (of_decide_eq_true (ands h).2)
    · cases h
  | .bin o a b, X, W, sc, e, c, q, h => by
    have r := q.toScR
    unfold isE at h; split at h
    · have h1 := ands h
      have h2 := ands h1.1
      refine ⟨?k5, pt_val ?k5⟩
      exact c_bin h2.1 (sV r h2.2 (sE a c q h2.2).1) (sV r h1.2 (sE b c q h1.2).1)
    · cases h
  | .neg a, X, W, sc, e, c, q, h => by
    have r := q.toScR
    unfold isE at h; split at h
    · refine ⟨?k6, pt_val ?k6⟩
      exact c_neg (sE a c q h).1
    · cases h
  | .cmp o a b, X, W, sc, e, c, q, h => by
    have r := q.toScR
    unfold isE at h; split at h
    · have h1 := ands h
      have h2 := ands h1.1
      have h3 := ands h2.1
      exact c_cmp c h3.1 h3.2 (sV r h2.2 (sE a c q h2.2).1) (sV r h1.2 (sE b c q h1.2).1)
    · cases h
  | .cmp2 o p a b d, X, W, sc, e, c, q, h => by
    have r := q.toScR
    unfold isE at h; split at h
    · have h1 := ands h
      have h2 := ands h1.1
      have h3 := ands h2.1
      have h4 := ands h3.1
      have h5 := ands h4.1
      exact c_cmp2 c h5.1 h5.2 h4.2 (sV r h3.2 (sE a c q h3.2).1) (sV r h2.2 (sE b c q h2.2).1) (sV r h1.2 (sE d c q h1.2).1)
    · cases h
  | .and es, X, W, sc, e, c, q, h => by
    have r := q.toScR
    unfold isE at h; split at h
    · obtain ⟨k1, k2⟩ := sAnd es c q h
      exact ⟨PE.imp k1 i_andX, PT.imp k2.pt fun _ _ _ h => i_andX _ _ _ h⟩
    · cases h
  | .or es, X, W, sc, e, c, q, h => by
    have r := q.toScR
    unfold isE at h; split at h
    · obtain ⟨k1, k2⟩ := sOr es c q h
      exact ⟨PE.imp k1 i_orX, PT.imp k2.pt fun _ _ _ h => i_orX _ _ _ h⟩
    · cases h
  | .not a, X, W, sc, e, c, q, h => by
    have r := q.toScR
    unfold isE at h; split at h
    · exact c_not (sE a c q h).1 (sE a c q h).2
    · cases h
  | .ite d a b, X, W, sc, e, c, q, h => by
    have r := q.toScR
    unfold isE at h; split at h
    · have h1 := ands h
      have h2 := ands h1.1
      have k0 := sE d c q h2.1
      have k1 := sE a c q h2.2
      have k2 := sE b c q h1.2
      exact ⟨c_ite k0.2 k1.1 k2.1, ct_ite k0.2 k1.2 k2.2⟩
    · cases h
  | .ix a i, X, W, sc, e, c, q, h => by
    have r := q.toScR
    unfold isE at h; split at h
    · have h1 := ands h
      refine ⟨?k7, pt_val ?k7⟩
      exact c_ix h1.2 (sV r h1.1 (sE a c q h1.1).1) (sE i c q h1.2).1
    · cases h
  | .sl a lo hi, X, W, sc, e, c, q, h => by
    have r := q.toScR
    unfold isE at h; split at h
    · have h1 := ands h
      have h2 := ands h1.1
      refine ⟨?k8, pt_val ?k8⟩
      exact c_sl (sV r h2.1 (sE a c q h2.1).1) (sPo lo c q h2.2) (sPo hi c q h1.2)
    · cases h
  | .rev a, X, W, sc, e, c, q, h => by
    have r := q.toScR
    unfold isE at h; split at h
    · refine ⟨?k9, pt_val ?k9⟩
      exact c_rev (sV r h (sE a c q h).1)
    · cases h
  | .call p f es, X, W, sc, e, c, q, h => by
    have r := q.toScR
    unfold isE at h; split at h
    · have h1 := ands h
      have h2 := ands h1.1
      have h3 := ands h2.1
      refine ⟨?k10, pt_val ?k10⟩
      exact c_call c r (of_decide_eq_true h3.1) h3.2 h2.2 h1.2 (sEs es c q h2.2).2.2
    · cases h
  | .callk f es ks perm, X, W, sc, e, c, q, h => by
    have r := q.toScR
    unfold isE at h; split at h
    · have h1 := ands h
      have h2 := ands h1.1
      have h3 := ands h2.1
      have h4 := ands h3.1
      have h5 := ands h4.1
      have h6 := ands h5.1
      have h7 := ands h6.1
      refine ⟨?k11, pt_val ?k11⟩
      exact c_callk c r (of_decide_eq_true h7.1) h7.2 h6.2 h5.2 h4.2 h3.2 (by simpa using h1.2) (isEs_len h6.2) (sEs es c q h6.2).1 (sKs ks c q h5.2)
    · cases h
  | .callv i es, X, W, sc, e, c, q, h => by
    have r := q.toScR
    unfold isE at h; split at h
    · have h1 := ands h
      have h2 := ands h1.1
      refine ⟨?k12, pt_val ?k12⟩
      exact c_callv c r h2.1 h2.2 h1.2 (sEs es c q h2.2).2.2
    · cases h
  | .blt b es, X, W, sc, e, c, q, h => by
    have r := q.toScR
    unfold isE at h; split at h
    · have h1 := ands h
      have h2 := ands h1.1
      have k := sBlt b es c q h2.1 h2.2 h1.2
      exact ⟨k _ _, pt_val (k _ _)⟩
    · cases h
  | .lrange it, X, W, sc, e, c, q, h => by
    have r := q.toScR
    unfold isE at h; split at h
    · have h1 := ands h
      have h2 := ands h1.1
      have h3 := ands h2.1
      have y := sRng it c q
      refine ⟨?k13, pt_val ?k13⟩
      exact c_lrange c r h3.1 h3.2 h1.2 y.1 y.2 (by cases it <;> first | rfl | exact (Bool.false_ne_true h2.2).elim)
    · cases h
  | .isi t a, X, W, sc, e, c, q, h => by
    have r := q.toScR
    unfold isE at h; split at h
    · have h1 := ands h
      have h2 := ands h1.1
      have h3 := ands h2.1
      refine ⟨?k14, pt_val ?k14⟩
      exact c_isi c r h3.1 h3.2 h2.2 h1.2 (sV r h2.2 (sE a c q h2.2).1)
    · cases h
  | .bits a, X, W, sc, e, c, q, h => by
    have r := q.toScR
    unfold isE at h; split at h
    · have h1 := ands h
      have h2 := ands h1.1
      refine ⟨?k15, pt_val ?k15⟩
      exact c_bits h2.1 h2.2 (sE a c q h1.2).1
    · cases h
  | .comp elt t it cd own, X, W, sc, e, c, q, h => by
    have r := q.toScR
    unfold isE at h; split at h
    · have h1 := ands h
      have h2 := ands h1.1
      have h3 := ands h2.1
      have h4 := ands h3.1
      have h5 := ands h4.1
      have h6 := ands h5.1
      have h7 := ands h6.1
      refine ⟨?k16, pt_val ?k16⟩
      exact c_comp c r (blkOk_sc r h7.1) (of_decide_eq_true h6.2) (fun i m => by simpa using List.all_eq_true.mp h5.2 i m)
        (fun i m => of_decide_eq_true (List.all_eq_true.mp h7.2 i m)) (isIt_fold h4.2) (sIt it c q h4.2) (fun s H cenv fp ⟨C', cl, e⟩ => by subst e; exact c_tg (c.blk ..) ScR.blk h3.2)
        (fun s H cenv fp ⟨C', cl, e⟩ => by subst e; exact sIfs cd (c.blk ..) q.blk h2.2) (fun s H cenv fp ⟨C', cl, e⟩ => by subst e; exact (sE elt (c.blk ..) q.blk h1.2).1) (fun pins s σ H I => I.len)
    · cases h
  | .pop i, X, W, sc, e, c, q, h => by
    have r := q.toScR
    unfold isE at h; split at h
    · have h1 := ands h
      have h2 := ands h1.1
      refine ⟨?k17, pt_val ?k17⟩
      exact c_pop r h1.2 h2.1 h2.2
    · cases h
  | .popAt i a, X, W, sc, e, c, q, h => by
    have r := q.toScR
    unfold isE at h; split at h
    · have h1 := ands h
      have h2 := ands h1.1
      have h3 := ands h2.1
      refine ⟨?k18, pt_val ?k18⟩
      exact c_popAt r h2.2 h3.1 h3.2 h1.2 (sE a c q h1.2).1
    · cases h
theorem sEs : ∀ (es : Xs) {X : Cx} {W : WX} {sc : Scope} {us : List Expr}, Cok Nm FA CA C X W → ScM Nm FA X w sc → isEs Nm X.N es sc us = true →
    PA X us (tEs X.K FA CA W w C es) ∧ PA X us (tVs X.K FA CA W w C es) ∧ ∀ ms, PA X us (tAr X.K FA CA W w C ms es)
  | .nil, X, W, sc, us, c, q, h => by
    have r := q.toScR
    cases us with
    | nil => exact ⟨c_nil, c_vnil, fun ms => c_anil⟩
    | cons u us => simp [isEs] at h
  | .cons m es, X, W, sc, us, c, q, h => by
    have r := q.toScR
    cases us with
    | nil => simp [isEs] at h
    | cons u us =>
      have h' : isE Nm X.N m sc u = true ∧ isEs Nm X.N es sc us = true := by simpa [isEs] using h
      have k1 := (sE m c q h'.1).1
      obtain ⟨k2, k3, k4⟩ := sEs es c q h'.2
      exact ⟨c_cons h'.1 k1 k2, c_vcons h'.1 (sV r h'.1 k1) k3, fun ms => c_acons r h'.1 k1 k4⟩
theorem sKs : ∀ (es : Xs) {X : Cx} {W : WX} {sc : Scope} {us : List Keyword}, Cok Nm FA CA C X W → ScM Nm FA X w sc → isKs Nm X.N es sc us = true → PK X us (tEs X.K FA CA W w C es)
  | .nil, X, W, sc, us, c, q, h => by
    have r := q.toScR
    cases us with
    | nil => exact c_knil
    | cons u us => simp [isKs] at h
  | .cons m es, X, W, sc, us, c, q, h => by
    have r := q.toScR
    cases us with
    | nil => simp [isKs] at h
    | cons u us =>
      obtain ⟨n, u, kp⟩ := u
      cases n with
      | none => simp [isKs] at h
      | some n =>
        have h' : isE Nm X.N m sc u = true ∧ isKs Nm X.N es sc us = true := by simpa [isKs] using h
        exact c_kcons (sE m c q h'.1).1 (sKs es c q h'.2)
theorem sAnd : ∀ (es : Xs) {X : Cx} {W : WX} {sc : Scope} {us : List Expr} {pos : Pos}, Cok Nm FA CA C X W → ScM Nm FA X w sc → isEs Nm X.N es sc us = true →
    PE X (.BoolOp .And us pos) (tAn X.K FA CA W w C es) ∧ PW X (.BoolOp .And us pos) (tTest (tAn X.K FA CA W w C es))
  | .nil, X, W, sc, us, pos, c, q, h => no_and
  | .cons m .nil, X, W, sc, us, pos, c, q, h => by
    have r := q.toScR
    cases us with
    | nil => simp [isEs] at h
    | cons u us =>
      have h' : isE Nm X.N m sc u = true ∧ isEs Nm X.N .nil sc us = true := by simpa [isEs] using h
      cases us with
      | nil => exact c_and1 (sE m c q h'.1).1 (sE m c q h'.1).2
      | cons _ _ => simp [isEs] at h'
  | .cons m (.cons f es), X, W, sc, us, pos, c, q, h => by
    have r := q.toScR
    cases us with
    | nil => simp [isEs] at h
    | cons u us =>
      have h' : isE Nm X.N m sc u = true ∧ isEs Nm X.N (.cons f es) sc us = true := by rw [isEs, Bool.and_eq_true] at h; exact h
      cases us with
      | nil => simp [isEs] at h'
      | cons u2 us => exact c_and2 (sE m c q h'.1).1 (sE m c q h'.1).2 (sAnd (.cons f es) c q h'.2)
theorem sOr : ∀ (es : Xs) {X : Cx} {W : WX} {sc : Scope} {us : List Expr} {pos : Pos}, Cok Nm FA CA C X W → ScM Nm FA X w sc → isEs Nm X.N es sc us = true →
    PE X (.BoolOp .Or us pos) (tOr X.K FA CA W w C es) ∧ PW X (.BoolOp .Or us pos) (tTest (tOr X.K FA CA W w C es))
  | .nil, X, W, sc, us, pos, c, q, h => no_or
  | .cons m .nil, X, W, sc, us, pos, c, q, h => by
    have r := q.toScR
    cases us with
    | nil => simp [isEs] at h
    | cons u us =>
      have h' : isE Nm X.N m sc u = true ∧ isEs Nm X.N .nil sc us = true := by simpa [isEs] using h
      cases us with
      | nil => exact c_or1 (sE m c q h'.1).1 (sE m c q h'.1).2
      | cons _ _ => simp [isEs] at h'
  | .cons m (.cons f es), X, W, sc, us, pos, c, q, h => by
    have r := q.toScR
    cases us with
    | nil => simp [isEs] at h
    | cons u us =>
      have h' : isE Nm X.N m sc u = true ∧ isEs Nm X.N (.cons f es) sc us = true := by rw [isEs, Bool.and_eq_true] at h; exact h
      cases us with
      | nil => simp [isEs] at h'
      | cons u2 us => exact c_or2 (sE m c q h'.1).1 (sE m c q h'.1).2 (sOr (.cons f es) c q h'.2)
theorem sBlt (b : Blt) : ∀ (es : Xs) {X : Cx} {W : WX} {sc : Scope} {us : List Expr} {x : Str}, Cok Nm FA CA C X W → ScM Nm FA X w sc → bltIs b us.length x = true → glB sc x = true → isEs Nm X.N es sc us = true →
    ∀ p pos, PE X (.Call (.Name x p) us [] pos) (tE X.K FA CA W w C (.blt b es))
  | .nil, X, W, sc, us, x, c, q, hb, hg, h => by
    have r := q.toScR
    cases us with
    | nil => cases b <;> simp [bltIs] at hb
    | cons u us => simp [isEs] at h
  | .cons m es, X, W, sc, us, x, c, q, hb, hg, h => by
    have r := q.toScR
    cases us with
    | nil => simp [isEs] at h
    | cons u us =>
      have h' : isE Nm X.N m sc u = true ∧ isEs Nm X.N es sc us = true := by rw [isEs, Bool.and_eq_true] at h; exact h
      exact fun p pos => c_blt c r h hb hg (c_vcons h'.1 (sV r h'.1 (sE m c q h'.1).1) (sEs es c q h'.2).2.1)
theorem sPo : ∀ (m : Xo) {X : Cx} {W : WX} {sc : Scope} {e : Option Expr}, Cok Nm FA CA C X W → ScM Nm FA X w sc → isEo Nm X.N m sc e = true → PO X e (tPo X.K FA CA W w C m)
  | .none, X, W, sc, e, c, q, h => by
    have r := q.toScR
    cases e with
    | none => exact c_poN
    | some e => simp [isEo] at h
  | .some m, X, W, sc, e, c, q, h => by
    have r := q.toScR
    cases e with
    | none => simp [isEo] at h
    | some e => exact c_poS (sE m c q (by simpa [isEo] using h)).1
theorem sIfs : ∀ (m : Xo) {X : Cx} {sc : Scope} {us : List Expr}, Cok Nm FA CA C X WF → ScM Nm FA X w sc → isIfs Nm X.N m sc us = true → PTs X us (tCond X.K FA CA w C m)
  | .none, X, sc, us, c, q, h => by
    have r := q.toScR
    cases us with
    | nil => exact c_condN
    | cons u us => simp [isIfs] at h
  | .some m, X, sc, us, c, q, h => by
    have r := q.toScR
    cases us with
    | nil => simp [isIfs] at h
    | cons u us =>
      cases us with
      | nil => exact c_condS (sE m c q (by simpa [isIfs] using h)).2
      | cons _ _ => simp [isIfs] at h
theorem sIt : ∀ (m : RF.It) {X : Cx} {W : WX} {sc : Scope} {tg e : Expr}, Cok Nm FA CA C X W → ScM Nm FA X w sc → isIt Nm X.N m sc tg e = true → PI X tg e (tIt X.K FA CA W w C m)
  | .seq a, X, W, sc, tg, e, c, q, h => by
    have r := q.toScR
    unfold isIt at h
    exact c_seq (sE a c q h).1
  | .rng1 a, X, W, sc, tg, e, c, q, h => by
    have r := q.toScR
    unfold isIt at h; split at h
    · have h1 := ands h
      have h2 := ands h1.1
      exact c_rng1 c r h2.1 h2.2 h1.2 (sE a c q h1.2).1
    · cases h
  | .rng2 a b, X, W, sc, tg, e, c, q, h => by
    have r := q.toScR
    unfold isIt at h; split at h
    · have h1 := ands h
      have h2 := ands h1.1
      have h3 := ands h2.1
      exact c_rng2 c r h3.1 h3.2 h2.2 h1.2 (sE a c q h2.2).1 (sE b c q h1.2).1
    · cases h
  | .rng3 a b d, X, W, sc, tg, e, c, q, h => by
    have r := q.toScR
    unfold isIt at h; cases h
  | .enum a, X, W, sc, tg, e, c, q, h => by
    have r := q.toScR
    unfold isIt at h; split at h
    · have h1 := ands h
      have h2 := ands h1.1
      have h3 := ands h2.1
      have h4 := h1.2
      split at h4
      · exact c_enum c r h3.1 h3.2 h2.2 (sE a c q h2.2).1
      · cases h4
    · cases h
theorem sRng : ∀ (it : RF.It) {X : Cx} {W : WX} {sc : Scope}, Cok Nm FA CA C X W → ScM Nm FA X w sc → (∀ a, it = .rng1 a → ∀ y, isE Nm X.N a sc y = true → PE X y (tE X.K FA CA W w C a)) ∧
    (∀ a b, it = .rng2 a b → ∀ y, (isE Nm X.N a sc y = true → PE X y (tE X.K FA CA W w C a)) ∧ (isE Nm X.N b sc y = true → PE X y (tE X.K FA CA W w C b)))
  | .seq a, X, W, sc, c, q => ⟨fun _ z => (nomatch z), fun _ _ z => (nomatch z)⟩
  | .rng1 a, X, W, sc, c, q => ⟨fun a' z y h => by obtain rfl := It.rng1.inj z; exact (sE a c q h).1, fun _ _ z => (nomatch z)⟩
  | .rng2 a b, X, W, sc, c, q => ⟨fun _ z => (nomatch z), fun a' b' z y => by obtain ⟨rfl, rfl⟩ := It.rng2.inj z; exact ⟨fun h => (sE a c q h).1, fun h => (sE b c q h).1⟩⟩
  | .rng3 a b d, X, W, sc, c, q => ⟨fun _ z => (nomatch z), fun _ _ z => (nomatch z)⟩
  | .enum a, X, W, sc, c, q => ⟨fun _ z => (nomatch z), fun _ _ z => (nomatch z)⟩
end
end
end RF
/-! RFq: statements. -/
namespace RF
open L2 PySem PySem.Spec PyProof.Rows
/-! ### the look at the text -/
/-- `x = [..]` on one line: the value goes straight to the name -/
def swB (sc : Scope) (x : Str) (px : Pos) : Expr → Bool
  | .ListComp _ _ s cp => decide (kd sc x = some .local) && (px.line == cp.line) && !(s.names.any fun (n, k) => n == x && (k == .local || k == .cell))
  | _ => false
def isComp : Expr → Bool
  | .ListComp _ _ _ _ => true
  | .SetComp _ _ _ _ => true
  | .DictComp _ _ _ _ _ => true
  | _ => false
/-- a tuple of constants, or no tuple -/
def noSwap : Expr → Bool
  | .Tuple us _ _ => us.all (foldedForSure 8)
  | _ => true
/-- one of the names is kept in a cell -/
def cellN (sc : Scope) : Expr → Bool
  | .Name x _ => decide (kd sc x = some .cell)
  | _ => false
def anyCell (sc : Scope) (ts : List Expr) : Bool := ts.any (cellN sc)
def parOk (N : List Str) (sc : Scope) (is : List Nat) (ts us : List Expr) : Bool :=
  !us.all (foldedForSure 8) && !us.all (constantsAlone 8) &&
  match is, ts, us with
  | [i, j], [.Name x px, .Name y py], [_, _] => decide (N[i]? = some x) && decide (N[j]? = some y) && decide (kd sc x = some .local) && decide (kd sc y = some .local) && !(x == y) && (py.line == px.line)
  | [i, j, l], [.Name x px, .Name y py, .Name z pz], [_, _, _] => decide (N[i]? = some x) && decide (N[j]? = some y) && decide (N[l]? = some z) && decide (kd sc x = some .local) && decide (kd sc y = some .local) && decide (kd sc z = some .local) &&
      !(x == y) && !(x == z) && !(y == z) && (py.line == px.line) && (pz.line == px.line)
  | _, _, _ => false
def offB (pr is : List Nat) : Bool := is.all fun i => !pr.contains i
theorem offB_ok {pr is : List Nat} (h : offB pr is = true) : ∀ i ∈ is, i ∉ pr := fun i m => by simpa using List.all_eq_true.mp h i m
/-- the slots pr stand as they stood -/
def Kp (pr : List Nat) (σ0 σ : L2.St) : Prop := ∀ i ∈ pr, σ[i]? = σ0[i]?
theorem Kp.set {pr : List Nat} {σ0 σ : L2.St} {i : Nat} {v : Option V} (h : Kp pr σ0 σ) (n : i ∉ pr) : Kp pr σ0 (σ.set i v) := fun j m => by
  rw [List.getElem?_set_ne (fun e => n (by rw [e]; exact m))]; exact h j m
theorem Kp.beside {pr is : List Nat} {σ0 σ σ' : L2.St} (h : Kp pr σ0 σ) (b : Beside is σ σ') (n : ∀ i ∈ is, i ∉ pr) : Kp pr σ0 σ' := fun j m => by
  rw [b.2 j fun z => n j z m]; exact h j m
mutual
def isS (Nm : Names) (N : List Str) (pr : List Nat) (sc : Scope) : S → Stmt → Bool
  | .set i e, st => (match st with | .Assign [.Name x px] u _ => locB N sc i x && isE Nm N e sc u && (!isComp u || swB sc x px u || decide (kd sc x = some .cell)) && !pr.contains i | _ => false)
  | .asg is e, st => (match st with | .Assign [.Tuple ts k p] u _ => tgIs N sc (.tp is) (.Tuple ts k p) && isE Nm N e sc u && (noSwap u || anyCell sc ts) && offB pr is | _ => false)
  | .par is es, st => (match st with | .Assign [.Tuple ts _ _] (.Tuple us _ _) _ => isEs Nm N es sc us && parOk N sc is ts us && offB pr is | _ => false)
  | .sto i k e, st => (match st with | .Assign [.Subscript (.Name x _) ku _] u _ => visB N sc i x && isE Nm N k sc ku && isE Nm N e sc u | _ => false)
  | .app i e, st => (match st with | .Expr (.Call (.Attribute (.Name x _) m p) [u] [] q) _ => m == "append" && (p.endLine == q.line) && visB N sc i x && isE Nm N e sc u | _ => false)
  | .expr e, st => (match st with | .Expr u _ => isE Nm N e sc u && !isComp u | _ => false)
  | .ret e, st => (match st with | .Return (some u) _ => isE Nm N e sc u | _ => false)
  | .ret0, st => (match st with | .Return none _ => true | _ => false)
  | .ite c a b, st => (match st with | .If u as bs _ => isE Nm N c sc u && isSs Nm N pr sc a as && isSs Nm N pr sc b bs | _ => false)
  | .for t it b, st => (match st with | .For tg iu bs [] _ => isIt Nm N it sc tg iu && tgIs N sc t tg && isSs Nm N pr sc b bs && offB pr (tgSlots t) | _ => false)
  | .whl c b, st => (match st with | .While u bs [] _ => isE Nm N c sc u && isSs Nm N pr sc b bs | _ => false)
  | .pass, st => (match st with | .Pass _ => true | _ => false)
  | .never, _ => true
  | .raise k e, st => (match st with | .Raise (some (.Call (.Name x _) [u] [] _)) none _ => decide (Nm.cl k = some x) && glB sc x && isE Nm N e sc u | _ => false)
  | .tryE _ _ _, _ => false
  | .each i j n, st => (match st with | .For (.Name z _) (.Name x _) [.Expr (.Call (.Attribute (.Name y _) m p) [u] [] q) _] [] _ => (m == "append") && (p.endLine == q.line) && visB N sc i x && visB N sc j y && locB N sc j z && isE Nm N (.n n) sc u && !pr.contains j && i != j | _ => false)
def isSs (Nm : Names) (N : List Str) (pr : List Nat) (sc : Scope) : Ss → List Stmt → Bool
  | .nil, st => (match st with | [] => true | _ => false)
  | .cons s r, st => (match st with | t :: ts => isS Nm N pr sc s t && isSs Nm N pr sc r ts | _ => false)
end
/-! ### readings -/
section
variable (K : PySem.W.Frag) (FA : Fns) (CA : Nat → Option Addr) (W : WX) (w : W0) (pr : List Nat) (σ0 : L2.St)
def PostS (D : Ends) (n : Nat) (F : Hp) (ts : List (Option V × O)) : Out → Prop
  | .nx env' => ∀ σ' H' F', σ'.length = n ∧ Kp pr σ0 σ' → env'.length = n → Hs K FA w F' H' (lv σ' env' ++ ts) → Sub F F' → D.nx σ' H'
  | .rt o env' => ∀ v σ' H' F', σ'.length = n ∧ Kp pr σ0 σ' → env'.length = n → Hs K FA w F' H' ((some v, o) :: (lv σ' env' ++ ts)) → Sub F F' → D.rt v H'
  | .ex c ds => ∀ σ' H' F' od a, CA c = some a → Sub F F' → HR w F' H' → ExcAt K FA F' H' ds od → W (.ref a) od σ' H'
  | .no => False
def tS (C : Cfg) (Wf : Nat) (m : S) : TS := fun D σ H => ∃ F ts env, Kp pr σ0 σ ∧ env.length = σ.length ∧ Hs K FA w F H (lv σ env ++ ts) ∧ PostS K FA CA W w pr σ0 D σ.length F ts (evalS C Wf m env)
def tSs (C : Cfg) (Wf : Nat) (m : Ss) : TS := fun D σ H => ∃ F ts env, Kp pr σ0 σ ∧ env.length = σ.length ∧ Hs K FA w F H (lv σ env ++ ts) ∧ PostS K FA CA W w pr σ0 D σ.length F ts (evalSs C Wf m env)
end
theorem PS.impL {X : Cx} {st : Stmt} {t t' : TS} (p : PS X st t) (i : ∀ D σ H, σ.length = X.N.length → t' D σ H → t D σ H) : PS X st t' := ⟨fun pins s σ H D I h => p.run pins s σ H D I (i D σ H I.len h)⟩
theorem PSs.impL {X : Cx} {st : List Stmt} {t t' : TS} (p : PSs X st t) (i : ∀ D σ H, σ.length = X.N.length → t' D σ H → t D σ H) : PSs X st t' := ⟨fun pins s σ H D I h => p.run pins s σ H D I (i D σ H I.len h)⟩
section
variable {Nm : Names} {FA : Fns} {CA : Nat → Option Addr} {C : Cfg} {X : Cx} {W : WX} {w : W0} {sc : Scope} {Wf : Nat}
variable {σ : L2.St} {F F' F1 H H' H1 : Hp} {ts : List (Option V × O)} {Q : VK} {D : Ends} {n : Nat} {pu : Bool} {pr : List Nat} {σ0 : L2.St}
theorem PostS.rebase {r : Out} (h : PostS X.K FA CA W w pr σ0 D n F ts r) (sF : Sub F F1) : PostS X.K FA CA W w pr σ0 D n F1 ts r := by
  cases r with
  | nx env => exact fun σ' H' F' a b s sf => h σ' H' F' a b s (sF.trans sf)
  | rt o env => exact fun v σ' H' F' a b s sf => h v σ' H' F' a b s (sF.trans sf)
  | ex c ds => exact fun σ' H' F' od a e sf hr x => h σ' H' F' od a e (sF.trans sf) hr x
  | no => exact h
/-- one thing behind another -/
theorem PostS.seq {r : Out} {k : Env → Out} {N : L2.St → Hp → Prop} (h : PostS X.K FA CA W w pr σ0 D n F ts (match r with | .nx env => k env | o => o))
    (i : ∀ env, r = .nx env → ∀ σ' H' F', σ'.length = n ∧ Kp pr σ0 σ' → env.length = n → Hs X.K FA w F' H' (lv σ' env ++ ts) → Sub F F' → PostS X.K FA CA W w pr σ0 D n F' ts (k env) → N σ' H') :
    PostS X.K FA CA W w pr σ0 { D with nx := N, ct := N, bk := D.nx } n F ts r := by
  cases r with
  | nx env => exact fun σ' H' F' a b s sf => i env rfl σ' H' F' a b s sf (h.rebase sf)
  | rt o env => exact h
  | ex c ds => exact h
  | no => exact h
theorem PostS.seq' {r : Out} {k : Env → Out} {N : L2.St → Hp → Prop} (h : PostS X.K FA CA W w pr σ0 D n F ts (match r with | .nx env => k env | o => o))
    (i : ∀ env, r = .nx env → ∀ σ' H' F', σ'.length = n ∧ Kp pr σ0 σ' → env.length = n → Hs X.K FA w F' H' (lv σ' env ++ ts) → Sub F F' → PostS X.K FA CA W w pr σ0 D n F' ts (k env) → N σ' H') :
    PostS X.K FA CA W w pr σ0 { D with nx := N } n F ts r := by
  cases r with
  | nx env => exact fun σ' H' F' a b s sf => i env rfl σ' H' F' a b s sf (h.rebase sf)
  | rt o env => exact h
  | ex c ds => exact h
  | no => exact h
/-- an expression, then the rest -/
theorem bindS {r : R O} {f : O → Env → Out} (hn : n = σ.length) (post : PostS X.K FA CA W w pr σ0 D n F ts (Out.ofR r f))
    (hk : ∀ o env1 v H1 F1, r = .ok o env1 → env1.length = σ.length → Hs X.K FA w F1 H1 ((some v, o) :: (lv σ env1 ++ ts)) → Sub F F1 → PostS X.K FA CA W w pr σ0 D n F1 ts (f o env1) → Q v H1) :
    Post X.K FA CA W w pu σ F H ts Q r := by
  cases r with
  | ok o env => exact fun v H' F' hl s sf p => hk o env v H' F' rfl hl s sf (PostS.rebase post sf)
  | ex c ds => exact fun H' F' od a e sf hr x => post σ H' F' od a e sf hr x
  | no => exact post
theorem swapsNo {u : Expr} {t : Option Expr} {l : Nat} {env : PySem.Env} (h : isComp u = false) : swapsWith u t l env = pure false := by
  cases u <;> first | rfl | (simp [isComp] at h)
theorem swapsCell {u : Expr} {x : Str} {px : Pos} {l : Nat} {env : PySem.Env} (h : env.kindOf x = some .cell) : swapsWith u (some (.Name x px)) l env = pure false := by
  have e : (env.kindOf x == some .local) = false := by rw [h]; rfl
  unfold swapsWith
  cases u <;> first | rfl | simp [e]
theorem swapsSole {u t : Expr} {l : Nat} {env : PySem.Env} (h : ∀ x p, t ≠ .Name x p) : swapsWithSole [t] u l env = pure false := by
  cases t <;> first | exact absurd rfl (h _ _) | (cases u <;> rfl)
variable (c : Cok Nm FA CA C X W) (r : ScR X sc)
include r in
theorem s_store {i : Nat} {x : Str} (hx : locB X.N sc i x = true) (hpr : i ∉ pr) (hn : σ.length = X.N.length) {e : RF.X} (h : tS X.K FA CA W w pr σ0 C Wf (.set i e) D σ H) : tAsg (tE X.K FA CA W w C e) (gName i) D σ H := by
  obtain ⟨F, ts, env, kp, hl, s, post⟩ := h
  unfold evalS at post
  refine ⟨F, ts, env, hl, s, bindS rfl post fun o env1 v H1 F1 _ hl1 s1 sF1 post => ?_⟩
  have hi : i < σ.length := by rw [hn]; exact isE_lt (locB_ok r hx).1
  exact post _ H1 F1 ⟨by rw [List.length_set], kp.set hpr⟩ (by rw [List.length_set]; exact hl1) (s1.store hl1 hi) (Sub.refl _)
include c r in
theorem s_raise {k : Nat} {e : RF.X} {x : Str} {p pos pos' : Pos} {u : Expr} (hk : Nm.cl k = some x) (hg : glB sc x = true) (hi : isE Nm X.N e sc u = true) (he : PE X u (tE X.K FA CA W w C e)) :
    PS X (.Raise (some (.Call (.Name x p) [u] [] pos)) none pos') (tS X.K FA CA W w pr σ0 C Wf (.raise k e)) := by
  obtain ⟨a, ha, ma⟩ := c.cls k x hk
  obtain ⟨⟨fI, cc, Fn, ini⟩, _, _⟩ := c.clf k a ha
  obtain ⟨g1, g2⟩ := glB_ok r hg
  refine PS.impL (RX.ps_raise_own (p := p) (pos := pos) (pos' := pos') ini c.takes c.calm c.rm passL g1 ma g2 he (by rw [star_cons hi]; rfl)) fun D σ H hn ⟨F, ts, env, kp, hl, s, post⟩ => ?_
  unfold evalS at post
  refine ⟨F, ts, env, hl, s, bindS rfl post fun o env1 v H1 F1 _ hl1 s1 sF1 post => ?_⟩
  exact RX.raise_point (W' := fun cls d H' => W cls d σ H') fun dx nd => (by
    obtain ⟨F2, sF2, s2⟩ := s1.freeze
    have s3 := s2.alloc (ob := .xd [("value", v)]) nd (fun xs z => by cases z)
    exact post σ _ F2 (some dx) a (by rw [c.ca]; exact ha) sF2 s3.1 (.inr ⟨dx, v, _, rfl, rfl, upd_same, s2.rep⟩))
include c r in
theorem s_set {i : Nat} {e : RF.X} {x : Str} {px pos : Pos} {u : Expr} (hx : locB X.N sc i x = true) (hpr : i ∉ pr) (hu : swapsWith u (some (.Name x px)) pos.line X.env = pure false) (he : PE X u (tE X.K FA CA W w C e)) : PS X (.Assign [.Name x px] u pos) (tS X.K FA CA W w pr σ0 C Wf (.set i e)) := by
  have h1 := locB_ok r hx
  exact PS.impL (ps_set c.nd h1.1 h1.2.1 he hu h1.2.2) fun D σ H hn h => s_store r hx hpr hn h
include c r in
theorem s_asg {is : List Nat} {e : RF.X} {tg u : Expr} {pos : Pos} (hg : tgIs X.N sc (.tp is) tg = true) (hpr : ∀ i ∈ is, i ∉ pr) (ht : ∀ x p, tg ≠ .Name x p) (hw : swappedStores [tg] u X.env = pure none) (h1 : (assignEach [tg] X.env).map (·.2) = [assign tg X.env]) (he : PE X u (tE X.K FA CA W w C e)) :
    PS X (.Assign [tg] u pos) (tS X.K FA CA W w pr σ0 C Wf (.asg is e)) := by
  refine PS.impL (ps_asg he (c_tg (w := w) c r hg) (swapsSole ht) hw h1) fun D σ H hn ⟨F, ts, env, kp, hl, s, post⟩ => ?_
  unfold evalS at post
  refine ⟨F, ts, env, hl, s, bindS rfl post fun o env1 v H1 F1 _ hl1 s1 sF1 post => ?_⟩
  cases e1 : tgE (.tp is) o env1 with
  | none => rw [e1] at post; exact False.elim post
  | some env2 =>
    rw [e1] at post
    exact ⟨hn, F1, ts, env1, o, hl1, s1, env2, e1, fun σ2 bs hl2 s2 => post σ2 H1 F1 ⟨bs.1, kp.beside bs hpr⟩ (by rw [hl2, bs.1]) s2 (Sub.refl _)⟩
include r in
theorem s_sto {i : Nat} {k e : RF.X} {x : Str} {px p pos : Pos} {ku u : Expr} (hv : visB X.N sc i x = true) (hi : isE Nm X.N k sc ku = true) (hk : PE X ku (tE X.K FA CA W w C k)) (he : PE X u (tE X.K FA CA W w C e)) :
    PS X (.Assign [.Subscript (.Name x px) ku p] u pos) (tS X.K FA CA W w pr σ0 C Wf (.sto i k e)) := by
  refine PS.impL (ps_asg he (pg_sub (pe_slot r hv) hk set_list (fun v => by cases ku <;> first | rfl | (rw [notSlice] at hi; cases hi))) (swapsSole fun _ _ z => by cases z) (by cases u <;> rfl)) fun D σ H hn ⟨F, ts, env, kp, hl, s, post⟩ => ?_
  unfold evalS at post
  refine ⟨F, ts, env, hl, s, bindS rfl post fun o env1 v H1 F1 _ hl1 s1 sF1 post => ?_⟩
  cases e1 : getE env1 i with
  | none => rw [e1] at post; exact False.elim post
  | some o1 =>
    rw [e1] at post
    cases o1 with
    | z d => exact False.elim post
    | t os => exact False.elim post
    | l os0 =>
      have s1' := s1.toTemp
      obtain ⟨va, e2, s2⟩ := s1'.take hl1 e1
      refine ⟨va, e2, F1, (some v, o) :: ts, env1, hl1, s1', ?_⟩
      have post : PostS X.K FA CA W w pr σ0 D σ.length F1 ts (Out.ofR (evalE C k env1) fun x env2 => match x, getE env2 i with
        | .z (.int j), some (.l os) => match L2.ixN os.length j with
          | some q => .nx (env2.set i (some (.l (os.set q o))))
          | none => .no
        | _, _ => .no) := post
      cases e3 : evalE C k env1 with
      | no => rw [e3] at post; exact False.elim post
      | ex c ds => rw [e3] at post; exact fun H' F' od a e sf hr x => post σ H' F' od a e sf hr x
      | ok xk env2 =>
        rw [e3] at post
        intro vk H2 F2 hl2 s3 sF2 _
        cases xk with
        | l _ => exact False.elim post
        | t _ => exact False.elim post
        | z dk =>
        cases dk with
        | int j =>
          have ev := RepV.int (.rep s3.rep : RepV X.K FA F2 H2 vk _)
          subst ev
          cases e4 : getE env2 i with
          | none => rw [Out.ofR_ok, e4] at post; exact False.elim post
          | some o2 =>
            rw [Out.ofR_ok, e4] at post
            cases o2 with
            | z d => exact False.elim post
            | t os => exact False.elim post
            | l os =>
              have post : PostS X.K FA CA W w pr σ0 D σ.length F1 ts (match L2.ixN os.length j with | some q => .nx (env2.set i (some (.l (os.set q o)))) | none => .no) := post
              cases e5 : L2.ixN os.length j with
              | none => rw [e5] at post; exact False.elim post
              | some q =>
                rw [e5] at post
                obtain ⟨vb, e6, s4⟩ := s3.tail.take hl2 e4
                rw [e2] at e6
                obtain rfl : va = vb := by simpa using e6
                obtain ⟨a, vs, rfl, hv, hvl⟩ := s4.own
                obtain ⟨q1, q2, q3, q4⟩ := ixN_seq e5
                have s5 := s4.perm (List.Perm.cons _ List.perm_middle)
                have s6 := Hs.setAt (i := q) hv q2 s5
                have s7 := Hs.back hl2 e2 s6
                exact ⟨a, vs, j, q, rfl, rfl, hv, by rw [hvl]; exact e5, post σ _ F2 ⟨rfl, kp⟩ (by rw [List.length_set]; exact hl2) s7 sF2⟩
        | _ => exact False.elim post
include r in
theorem s_app {i : Nat} {e : RF.X} {x m : Str} {px p q pos : Pos} {u : Expr} (hm : (m == "append") = true) (hl : (p.endLine == q.line) = true) (hv : visB X.N sc i x = true) (hi : isE Nm X.N e sc u = true) (he : PE X u (tE X.K FA CA W w C e)) :
    PS X (.Expr (.Call (.Attribute (.Name x px) m p) [u] [] q) pos) (tS X.K FA CA W w pr σ0 C Wf (.app i e)) := by
  obtain rfl : m = "append" := by simpa using hm
  refine PS.impL (ps_expr (pe_bm (T := "list") PySem.F.plainAttrs_list PySem.F.slot_list_append PySem.F.type_list_append mt_append (pe_slot r hv) (pa_cons he pa_nil (star_cons hi)) (by rfl) (by rw [star_cons hi]; rfl) hl (star_cons hi) (by rfl)) (by rfl)) fun D σ H hn ⟨F, ts, env, kp, hl, s, post⟩ => ?_
  unfold evalS at post
  cases e0 : getE env i with
  | none => rw [e0] at post; exact False.elim post
  | some o1 =>
    rw [e0] at post
    cases o1 with
    | z d => exact False.elim post
    | t os => exact False.elim post
    | l os0 =>
      obtain ⟨v, e1, s1⟩ := s.take hl e0
      obtain ⟨a, vs0, rfl, hv0, hvl0⟩ := s1.own
      refine ⟨_, e1, Or.inl ⟨rfl, _, Or.inl (Or.inl hv0)⟩, F, ts, env, hl, s, ?_⟩
      refine bindS rfl post fun o env1 y H1 F1 _ hl1 s1 sF1 post => ?_
      cases e2 : getE env1 i with
      | none => rw [e2] at post; exact False.elim post
      | some o2 =>
        rw [e2] at post
        cases o2 with
        | z d => exact False.elim post
        | t os => exact False.elim post
        | l os =>
          have post : PostS X.K FA CA W w pr σ0 D σ.length F1 ts (if lenOk os then .nx (env1.set i (some (.l (os ++ [o])))) else .no) := post
          have hlen : lenOk os = true ∨ lenOk os = false := by cases lenOk os <;> simp
          rcases hlen with hlen | hlen
          · rw [hlen] at post
            have hlen2 : os.length < 2 ^ 20 := of_decide_eq_true (show decide (os.length < 2 ^ 20) = true from hlen)
            obtain ⟨vb, e6, s4⟩ := s1.toTemp.take hl1 e2
            rw [e1] at e6
            obtain rfl : V.ref a = vb := by simpa using e6
            obtain ⟨a', vs, ea, hv, hvl⟩ := s4.own
            cases ea
            have s5 := s4.perm (List.Perm.cons _ List.perm_middle)
            have s6 := Hs.append hv s5
            have s7 := Hs.back hl1 e1 s6
            have e24 : (sizeLine : Nat) = 2 ^ 24 := rfl
            exact ⟨a, vs, y, rfl, rfl, hv, by omega, post σ _ F1 ⟨rfl, kp⟩ (by rw [List.length_set]; exact hl1) s7 (Sub.refl _)⟩
          · rw [hlen] at post; exact False.elim post
theorem s_expr {e : RF.X} {u : Expr} {pos : Pos} (hu : isComp u = false) (he : PE X u (tE X.K FA CA W w C e)) : PS X (.Expr u pos) (tS X.K FA CA W w pr σ0 C Wf (.expr e)) := by
  refine PS.impL (ps_expr he (swapsNo hu)) fun D σ H hn ⟨F, ts, env, kp, hl, s, post⟩ => ?_
  unfold evalS at post
  exact ⟨F, ts, env, hl, s, bindS rfl post fun o env1 v H1 F1 _ hl1 s1 sF1 post => post σ H1 F1 ⟨rfl, kp⟩ hl1 s1.tail (Sub.refl _)⟩
theorem evalS_ret {C : Cfg} {e : RF.X} {env : Env} (h : ∀ i, e ≠ .v i) : evalS C Wf (.ret e) env = Out.ofR (evalE C e env) fun o env1 => .rt o env1 := by
  cases e <;> first | exact absurd rfl (h _) | rfl
include r in
theorem s_ret {e : RF.X} {u : Expr} {pos : Pos} (hi : isE Nm X.N e sc u = true) (he : PE X u (tE X.K FA CA W w C e)) : PS X (.Return (some u) pos) (tS X.K FA CA W w pr σ0 C Wf (.ret e)) := by
  by_cases z : ∃ i, e = .v i
  · obtain ⟨i, rfl⟩ := z
    unfold isE at hi
    split at hi
    · rename_i x px
      refine PS.impL (ps_ret (pe_slot r hi)) fun D σ H hn ⟨F, ts, env, kp, hl, s, post⟩ => ?_
      unfold evalS at post
      cases e0 : getE env i with
      | none => rw [e0] at post; exact False.elim post
      | some o =>
        rw [e0] at post
        obtain ⟨v, e1, s1⟩ := s.take hl e0
        exact ⟨v, e1, post v σ H F ⟨rfl, kp⟩ (by rw [List.length_set]; exact hl) s1 (Sub.refl _)⟩
    · cases hi
  · refine PS.impL (ps_ret he) fun D σ H hn ⟨F, ts, env, kp, hl, s, post⟩ => ?_
    rw [evalS_ret fun i e => z ⟨i, e⟩] at post
    exact ⟨F, ts, env, hl, s, bindS rfl post fun o env1 v H1 F1 _ hl1 s1 sF1 post => post v σ H1 F1 ⟨rfl, kp⟩ hl1 s1 (Sub.refl _)⟩
theorem s_ret0 {pos : Pos} : PS X (.Return none pos) (tS X.K FA CA W w pr σ0 C Wf .ret0) :=
  PS.impL ps_retN fun D σ H hn ⟨F, ts, env, kp, hl, s, post⟩ => by
    unfold evalS at post
    exact post .non σ H F ⟨rfl, kp⟩ hl (s.add .non) (Sub.refl _)
theorem s_pass {pos : Pos} : PS X (.Pass pos) (tS X.K FA CA W w pr σ0 C Wf .pass) :=
  PS.impL ps_pass fun D σ H hn ⟨F, ts, env, kp, hl, s, post⟩ => by
    unfold evalS at post
    exact post σ H F ⟨rfl, kp⟩ hl s (Sub.refl _)
theorem s_ite {e : RF.X} {a b : Ss} {u : Expr} {as bs : List Stmt} {pos : Pos} (hc : PT X u (tTest (tE X.K FA CA W w C e))) (ha : PSs X as (tSs X.K FA CA W w pr σ0 C Wf a)) (hb : PSs X bs (tSs X.K FA CA W w pr σ0 C Wf b)) :
    PS X (.If u as bs pos) (tS X.K FA CA W w pr σ0 C Wf (.ite e a b)) := by
  refine PS.impL (ps_if hc ha hb) fun D σ H hn ⟨F, ts, env, kp, hl, s, post⟩ => ?_
  unfold evalS at post
  refine ⟨F, ts, env, hl, s, bindS rfl post fun o env1 v H1 F1 _ hl1 s1 sF1 post => ?_⟩
  cases o with
  | l _ => exact False.elim post
  | t _ => exact False.elim post
  | z d =>
  cases d with
  | bl k =>
    have ev := RepV.bl (.rep s1.rep : RepV X.K FA F1 H1 v _)
    subst ev
    cases k with
    | true => exact ⟨true, rfl, iteT ⟨F1, ts, env1, kp, hl1, s1.tail, post⟩⟩
    | false => exact ⟨false, rfl, iteF ⟨F1, ts, env1, kp, hl1, s1.tail, post⟩⟩
  | _ => exact False.elim post
theorem s_whl {e : RF.X} {b : Ss} {u : Expr} {bs : List Stmt} {pos : Pos} (hp : PassesOwn (model X.prog X.w) X.A X.env X.xe) (hc : PT X u (tTest (tE X.K FA CA W w C e))) (hb : PSs X bs (tSs X.K FA CA W w pr σ0 C Wf b)) :
    PS X (.While u bs [] pos) (tS X.K FA CA W w pr σ0 C Wf (.whl e b)) := by
  refine PS.impL (ps_while hp hc hb) fun D σ H hn ⟨F, ts, env, kp, hl, s, post⟩ => ?_
  unfold evalS at post
  refine ⟨fun m σ2 H2 => (σ2.length = σ.length ∧ Kp pr σ0 σ2) ∧ ∃ F2 env2, env2.length = σ2.length ∧ Hs X.K FA w F2 H2 (lv σ2 env2 ++ ts) ∧ PostS X.K FA CA W w pr σ0 D σ2.length F2 ts (evalWhile (fun z => evalE C e z) (fun z => evalSs C Wf b z) m env2), ⟨Wf, ⟨rfl, kp⟩, F, env, hl, s, post⟩, ?_⟩
  rintro m σ2 H2 ⟨⟨hl0, kp⟩, F2, env2, hl2, s2, post⟩
  cases m with
  | zero => exact False.elim post
  | succ m =>
    have post : PostS X.K FA CA W w pr σ0 D σ2.length F2 ts (Out.ofR (evalE C e env2) fun x env1 => match x with
      | .z (.bl true) => match evalSs C Wf b env1 with
        | .nx env2 => evalWhile (fun z => evalE C e z) (fun z => evalSs C Wf b z) m env2
        | r => r
      | .z (.bl false) => .nx env1
      | _ => .no) := post
    refine ⟨F2, ts, env2, hl2, s2, bindS rfl post fun o env3 v H3 F3 _ hl3 s3 sF3 post => ?_⟩
    cases o with
    | l _ => exact False.elim post
    | t _ => exact False.elim post
    | z d =>
    cases d with
    | bl k =>
      have ev := RepV.bl (.rep s3.rep : RepV X.K FA F3 H3 v _)
      subst ev
      cases k with
      | true =>
        refine ⟨true, rfl, iteT ⟨fun σ' H' => (σ'.length = σ.length ∧ Kp pr σ0 σ') ∧ ∃ F2 env2, env2.length = σ'.length ∧ Hs X.K FA w F2 H' (lv σ' env2 ++ ts) ∧ PostS X.K FA CA W w pr σ0 D σ'.length F2 ts (evalWhile (fun z => evalE C e z) (fun z => evalSs C Wf b z) m env2),
          fun σ' H' q => ⟨m, Nat.lt_succ_self _, q⟩, F3, ts, env3, kp, hl3, s3.tail, ?_⟩⟩
        exact PostS.seq post fun env4 _ σ4 H4 F4 a4 b4 s4 sf4 post => ⟨⟨by rw [a4.1, hl0], a4.2⟩, F4, env4, by rw [b4, a4.1], s4, by rw [a4.1]; exact post⟩
      | false => exact ⟨false, rfl, iteF (post σ2 H3 F3 ⟨rfl, kp⟩ hl3 s3.tail (Sub.refl _))⟩
    | _ => exact False.elim post
include c r in
theorem s_for {t : Tg} {it : RF.It} {b : Ss} {tg iu : Expr} {bs : List Stmt} {pos : Pos} (hp : PassesOwn (model X.prog X.w) X.A X.env X.xe) (hi : PI X tg iu (tIt X.K FA CA W w C it)) (hf : ∀ x, foldedSetIterable iu X.env x = pure x) (hg : tgIs X.N sc t tg = true) (hpr : ∀ i ∈ tgSlots t, i ∉ pr)
    (hb : PSs X bs (tSs X.K FA CA W w pr σ0 C Wf b)) : PS X (.For tg iu bs [] pos) (tS X.K FA CA W w pr σ0 C Wf (.for t it b)) := by
  refine PS.impL (ps_for hp c.calm hi (c_tg (w := w) c r hg) hb hf) fun D σ H hn ⟨F, ts, env, kp, hl, s, post⟩ => ?_
  unfold evalS at post
  refine ⟨F, ts, env, hl, s, ?_⟩
  have turn : ∀ ds env1 J H1 F1, env1.length = σ.length → Hs X.K FA w F1 H1 (lv σ env1 ++ ts) → WalkOk X.K FA w J ds F1 → PostS X.K FA CA W w pr σ0 D σ.length F1 ts (evalFor t (fun z => evalSs C Wf b z) ds env1) →
      ∃ WW : Nat → Nat → L2.St → Hp → Prop, (∃ m, WW 0 m σ H1) ∧ ∀ i m σ H, WW i m σ H →
        (J.stop i H ∧ D.nx σ H) ∨ (J.go i H ∧ ∃ N : L2.St → Hp → Prop, (∀ σ' H', N σ' H' → ∃ m', m' < m ∧ WW (i + 1) m' σ' H') ∧ ∀ x H', J.yld i H x H' → tTg' X.K FA w X.N.length t x σ H' fun σ2 H2 => tSs X.K FA CA W w pr σ0 C Wf b { D with nx := N, ct := N, bk := D.nx } σ2 H2) := by
    intro ds env1 J H1 F1 hl1 s1 wk post
    refine ⟨fun i m σ2 H2 => m = ds.length - i ∧ i ≤ ds.length ∧ (σ2.length = σ.length ∧ Kp pr σ0 σ2) ∧ ∃ F2 env2, Sub F1 F2 ∧ env2.length = σ.length ∧ Hs X.K FA w F2 H2 (lv σ2 env2 ++ ts) ∧ PostS X.K FA CA W w pr σ0 D σ.length F2 ts (evalFor t (fun z => evalSs C Wf b z) (ds.drop i) env2),
      ⟨ds.length, by omega, by omega, ⟨rfl, kp⟩, F1, env1, Sub.refl _, hl1, s1, post⟩, ?_⟩
    rintro i m σ2 H2 ⟨rfl, hi2, ⟨hl0, kp⟩, F2, env2, sF2, hl2, s2, post⟩
    by_cases hlast : i < ds.length
    · right
      refine ⟨wk.go i H2 F2 sF2 s2.1.sub hlast, fun σ' H' => i + 1 ≤ ds.length ∧ (σ'.length = σ.length ∧ Kp pr σ0 σ') ∧ ∃ F2 env2, Sub F1 F2 ∧ env2.length = σ.length ∧ Hs X.K FA w F2 H' (lv σ' env2 ++ ts) ∧ PostS X.K FA CA W w pr σ0 D σ.length F2 ts (evalFor t (fun z => evalSs C Wf b z) (ds.drop (i + 1)) env2),
        fun σ' H' q => ⟨ds.length - (i + 1), by omega, rfl, q⟩, fun x H3 hy => ?_⟩
      have hdi : ds[i]? = some ds[i] := List.getElem?_eq_getElem hlast
      obtain ⟨F3, sF3, sH3, s3⟩ := wk.yld i H2 x H3 F2 _ _ sF2 s2 hdi hy
      rw [List.drop_eq_getElem_cons hlast] at post
      unfold evalFor at post
      cases e1 : tgE t (.z ds[i]) env2 with
      | none => rw [e1] at post; exact False.elim post
      | some env3 =>
        rw [e1] at post
        refine ⟨by rw [hl0, hn], F3, ts, env2, _, by rw [hl2, hl0], s3, env3, e1, fun σ3 bs hl3 s4 => ?_⟩
        have a3 : σ3.length = σ.length := by rw [bs.1, hl0]
        refine ⟨F3, ts, env3, kp.beside bs hpr, hl3, s4, ?_⟩
        rw [a3]
        exact PostS.seq (post.rebase sF3) fun env4 _ σ4 H4 F4 a4 b4 s4 sf4 post => ⟨by omega, a4, F4, env4, (sF2.trans sF3).trans sf4, b4, s4, post⟩
    · left
      have e0 : ds.drop i = [] := List.drop_eq_nil_iff.mpr (by omega)
      rw [e0] at post
      unfold evalFor at post
      exact ⟨wk.stop i H2 F2 sF2 s2.1.sub (by omega), post σ2 H2 F2 ⟨hl0, kp⟩ hl2 s2 (Sub.refl _)⟩
  cases e1 : evalIt C it env with
  | no => rw [e1] at post; exact False.elim post
  | ex c ds => rw [e1] at post; exact fun H' F' od a e sf hr x => post σ H' F' od a e sf hr x
  | ok ds env1 =>
    rw [e1] at post
    exact fun J H1 F1 hl1 s1 wk sF1 _ => turn ds env1 J H1 F1 hl1 s1 wk (PostS.rebase post sF1)
theorem Hs.items {K : PySem.W.Frag} {ps : List (Option V × O)} {os : List O} {a : Addr} (s : Hs K FA w F H ((some (.ref a), .l os) :: ps)) : ∃ vs, H a = some (.lst vs) ∧ vs.length = os.length ∧ Hs K FA w F H ((vs.map some).zip os ++ ps) ∧ ∀ (k : Nat) us, os[k]? = some (.l us) → vs[k]? ≠ some (.ref a) := by
  obtain ⟨hr, C, r, nd, q⟩ := s
  cases r with
  | cons h1 r =>
    cases h1 with
    | l h2 r2 =>
      rename_i B1 vs A1
      rw [List.cons_append] at nd q
      have nd2 := List.nodup_cons.mp nd
      refine ⟨vs, h2, r2.length, ⟨hr, _, RepL.of_os r2 r, nd2.2, fun b m => q b (List.mem_cons_of_mem _ m)⟩, fun k us hk hv => ?_⟩
      obtain ⟨v, Ao, Ar, e1, h3, _, pm⟩ := r2.pick hk
      rw [hv] at e1
      cases e1
      cases h3 with
      | l h4 r4 => exact nd2.1 (List.mem_append_left _ (pm.mem_iff.mpr (List.mem_append_left _ List.mem_cons_self)))
include c r in
theorem s_each {i j : Nat} {n : Int} {x y z m : Str} {px py pz p q pos pos' : Pos} {u : Expr} (hp : PassesOwn (model X.prog X.w) X.A X.env X.xe) (hm : (m == "append") = true) (hl : (p.endLine == q.line) = true) (hv : visB X.N sc i x = true) (hw : visB X.N sc j y = true) (hz : locB X.N sc j z = true)
    (hi : isE Nm X.N (.n n) sc u = true) (hpr : j ∉ pr) (hij : i ≠ j) (he : PE X u (tE X.K FA CA W w C (.n n))) :
    PS X (.For (.Name z pz) (.Name x px) [.Expr (.Call (.Attribute (.Name y py) m p) [u] [] q) pos] [] pos') (tS X.K FA CA W w pr σ0 C Wf (.each i j n)) := by
  obtain rfl : m = "append" := by simpa using hm
  refine PS.impL (ps_for hp c.calm (pi_list (pe_slot r hv)) (pg_slot c.nd r hz) (pss_one (ps_expr (pe_bm (T := "list") PySem.F.plainAttrs_list PySem.F.slot_list_append PySem.F.type_list_append mt_append (pe_slot r hw) (pa_cons he pa_nil (star_cons hi)) (by rfl) (by rw [star_cons hi]; rfl) hl (star_cons hi) (by rfl)) (by rfl))) (fun x => rfl)) fun D σ H hn ⟨F, ts, env, kp, hl, s, post⟩ => ?_
  unfold evalS at post
  cases e0 : getE env i with
  | none => rw [e0] at post; exact False.elim post
  | some o1 =>
    rw [e0] at post
    cases o1 with
    | z d => exact False.elim post
    | t os => exact False.elim post
    | l os =>
      have post : PostS X.K FA CA W w pr σ0 D σ.length F ts (if (i != j && os.all O.isLs) = true then .nx ((env.set i none).set j none) else .no) := post
      by_cases hc : (i != j && os.all O.isLs) = true
      · rw [if_pos hc] at post
        have hos := List.all_eq_true.mp (ands hc).2
        obtain ⟨va, e1, s1⟩ := s.take hl e0
        obtain ⟨a, vs0, rfl, hv0, hvl0⟩ := s1.own
        obtain ⟨vs, ha, hvl, s2, hne⟩ := s1.items
        have hl0 : ((env.set i none).set j none).length = σ.length := by rw [List.length_set, List.length_set]; exact hl
        have hj : j < σ.length := by rw [hn]; exact isE_lt (locB_ok r hz).1
        refine ⟨_, e1, a, rfl, ⟨_, .of ha⟩, fun k m σ2 H2 => m = os.length - k ∧ k ≤ os.length ∧ (σ2.length = σ.length ∧ Kp pr σ0 σ2) ∧ H2 a = some (.lst vs) ∧ ∃ F2, Sub F F2 ∧ Hs X.K FA w F2 H2 (((vs.drop k).map some).zip (os.drop k) ++ (lv σ2 ((env.set i none).set j none) ++ ts)),
          ⟨os.length, by omega, by omega, ⟨rfl, kp⟩, ha, F, Sub.refl _, ?_⟩, ?_⟩
        · rw [List.drop_zero, List.drop_zero]
          have s3 := s2.perm (List.perm_append_comm_assoc _ _ _)
          have s4 := s3.forget (i := j) (by rw [List.length_set]; exact hl)
          exact s4.perm (List.perm_append_comm_assoc _ _ _)
        · rintro k m σ2 H2 ⟨rfl, hk, ⟨hl2, kp2⟩, ha2, F2, sF2, s3⟩
          by_cases hlast : k < os.length
          · right
            have hkv : k < vs.length := by omega
            rw [List.drop_eq_getElem_cons hlast, List.drop_eq_getElem_cons hkv, List.map_cons, List.zip_cons_cons, List.cons_append] at s3
            refine ⟨⟨vs, _, .of ha2, List.getElem?_eq_getElem hkv⟩, fun σ' H' => k + 1 ≤ os.length ∧ (σ'.length = σ.length ∧ Kp pr σ0 σ') ∧ H' a = some (.lst vs) ∧ ∃ F2, Sub F F2 ∧ Hs X.K FA w F2 H' (((vs.drop (k + 1)).map some).zip (os.drop (k + 1)) ++ (lv σ' ((env.set i none).set j none) ++ ts)),
              fun σ' H' q => ⟨os.length - (k + 1), by omega, rfl, q⟩, fun x H3 hy => ?_⟩
            obtain ⟨rfl, hy⟩ := hy
            have hx := hy vs (.of ha2)
            rw [List.getElem?_eq_getElem hkv] at hx
            cases hx
            have ho := hos os[k] (List.getElem_mem hlast)
            cases ek : os[k] with
            | z d => rw [ek] at ho; cases ho
            | t us => rw [ek] at ho; cases ho
            | l us =>
              rw [ek] at ho s3
              have hb0 := hne k us (by rw [List.getElem?_eq_getElem hlast, ek])
              rw [List.getElem?_eq_getElem hkv] at hb0
              obtain ⟨b, xs, eb, hb, hbl⟩ := s3.own
              have hab : a ≠ b := fun z => hb0 (by rw [eb, z])
              have hus : us.length < 2 ^ 20 := of_decide_eq_true (show decide (us.length < 2 ^ 20) = true from ho)
              have s4 := s3.perm (List.Perm.cons _ (List.perm_append_comm_assoc _ _ _))
              have s5 := s4.store (i := j) (by rw [hl2]; exact hl0) (by rw [hl2]; exact hj)
              rw [List.set_set, eb] at s5
              have hl5 : ((env.set i none).set j (some (.l us))).length = (σ2.set j (some (.ref b))).length := by rw [List.length_set, List.length_set, List.length_set, hl2]; exact hl
              have e5 : (σ2.set j (some (.ref b)))[j]? = some (some (.ref b)) := by rw [List.getElem?_set_self (by omega)]
              have g5 : getE ((env.set i none).set j (some (.l us))) j = some (.l us) := by
                unfold getE
                rw [List.getElem?_set_self (by rw [List.length_set]; omega)]; rfl
              rw [eb]
              refine ⟨_, e5, Or.inl ⟨rfl, _, Or.inl (Or.inl hb)⟩, F2, _, (env.set i none).set j (some (.l us)), hl5, s5, ?_⟩
              unfold evalE
              intro v H4 F4 hl6 s6 sF4 p6
              have ev := RepV.int (.rep s6.rep : RepV X.K FA F4 H4 v _)
              subst ev
              obtain ⟨vb, e6, s7⟩ := s6.toTemp.take hl5 g5
              rw [e5] at e6
              obtain rfl : V.ref b = vb := by simpa using e6
              obtain ⟨b', xs4, eb', hb4, hbl4⟩ := s7.own
              cases eb'
              have s8 := s7.perm (List.Perm.cons _ List.perm_middle)
              have s9 := (Hs.append hb4 s8).tail
              rw [List.set_set] at s9
              have e24 : (sizeLine : Nat) = 2 ^ 24 := rfl
              refine ⟨b, xs4, _, rfl, rfl, hb4, by omega, by omega, ⟨by rw [List.length_set]; exact hl2, kp2.set hpr⟩, ?_, F4, sF2.trans sF4, s9.perm (List.perm_append_comm_assoc _ _ _)⟩
              rw [upd_ne hab]
              exact (p6 rfl).1 _ _ ha2
          · left
            have e1' : os.drop k = [] := List.drop_eq_nil_iff.mpr (by omega)
            have e2' : vs.drop k = [] := List.drop_eq_nil_iff.mpr (by omega)
            rw [e1', e2'] at s3
            exact ⟨⟨vs, .of ha2, by omega⟩, post σ2 H2 F2 ⟨hl2, kp2⟩ (by rw [hl0]) s3 sF2⟩
      · rw [if_neg hc] at post; exact False.elim post
end
end RF
/-! RFr: every statement. -/
namespace RF
open L2 PySem PySem.Spec PyProof.Rows
/-! ### stores from the right -/
section
variable {env : PySem.Env} {a b d : Expr}
theorem swap2 {x y : Str} {px py pt pt2 : Pos} {kt k2 : Nat} (hk : env.blockKind = .function) (hx : env.kindOf x = some .local) (hy : env.kindOf y = some .local) (hxy : (x == y) = false) (hl : (py.line == px.line) = true)
    (hs : ([a, b].any fun | .Starred .. => true | _ => false) = false) (h1 : [a, b].all (foldedForSure 8) = false) (h2 : [a, b].all (constantsAlone 8) = false) :
    swappedStores [.Tuple [.Name x px, .Name y py] kt pt] (.Tuple [a, b] k2 pt2) env = pure (some [x, y]) := by
  have hyx : (y == x) = false := by rw [Bool.eq_false_iff] at hxy ⊢; exact fun z => hxy (by rw [eq_of_beq z]; exact beq_self_eq_true x)
  have e2 : [x, y].eraseDups.length = 2 := by
    simp [List.eraseDups_cons, hyx, hxy]
  have hxx : (px.line == px.line) = true := beq_self_eq_true _
  unfold swappedStores
  simp only [hk, h1, h2, List.length_cons, List.length_nil, List.head?_cons, Option.map_some, Option.getD_some, Expr.pos, List.filterMap_cons, List.filterMap_nil, hx, hy, hl, hxx, beq_self_eq_true, Bool.and_true, if_true, e2]
  rw [if_neg (by decide), if_neg (by rw [Bool.not_eq_true]; exact hs)]
  rfl
theorem swap3 {x y z : Str} {px py pz pt pt2 : Pos} {kt k2 : Nat} (hk : env.blockKind = .function) (hx : env.kindOf x = some .local) (hy : env.kindOf y = some .local) (hz : env.kindOf z = some .local) (hxy : (x == y) = false) (hxz : (x == z) = false) (hyz : (y == z) = false)
    (hl : (py.line == px.line) = true) (hl2 : (pz.line == px.line) = true)
    (hs : ([a, b, d].any fun | .Starred .. => true | _ => false) = false) (h1 : [a, b, d].all (foldedForSure 8) = false) (h2 : [a, b, d].all (constantsAlone 8) = false) :
    swappedStores [.Tuple [.Name x px, .Name y py, .Name z pz] kt pt] (.Tuple [a, b, d] k2 pt2) env = pure (some [x, y, z]) := by
  have rv : ∀ {u v : Str}, (u == v) = false → (v == u) = false := fun {u v} h => by rw [Bool.eq_false_iff] at h ⊢; exact fun z => h (by rw [eq_of_beq z]; exact beq_self_eq_true u)
  have e2 : [x, y, z].eraseDups.length = 3 := by
    simp [List.eraseDups_cons, rv hxy, hxy, rv hxz, rv hyz]
  have hxx : (px.line == px.line) = true := beq_self_eq_true _
  unfold swappedStores
  simp only [hk, h1, h2, List.length_cons, List.length_nil, List.head?_cons, Option.map_some, Option.getD_some, Expr.pos, List.filterMap_cons, List.filterMap_nil, hx, hy, hz, hl, hl2, hxx, beq_self_eq_true, Bool.and_true, if_true, e2]
  rw [if_neg (by decide), if_neg (by rw [Bool.not_eq_true]; exact hs)]
  rfl
theorem swapNone {ts : List Expr} {u : Expr} {k : Nat} {p : Pos} (h : noSwap u = true) : swappedStores [.Tuple ts k p] u env = pure none := by
  cases u with
  | Tuple us k2 p2 =>
    have h : us.all (foldedForSure 8) = true := h
    unfold swappedStores
    simp only [h, if_true]
    split
    · rfl
    · split
      · rfl
      · split
        · rfl
        · rfl
  | _ => rfl
end
theorem swapCell {X : Cx} {sc : Scope} (r : ScR X sc) {ts : List Expr} {u : Expr} {k : Nat} {p : Pos} (h : anyCell sc ts = true) : swappedStores [.Tuple ts k p] u X.env = pure none := by
  cases u with
  | Tuple us k2 p2 =>
    have key : ∀ (line : Nat) (ts : List Expr), anyCell sc ts = true → (ts.filterMap fun
        | .Name id pos => if X.env.kindOf id == some .local && pos.line == line then some id else none
        | _ => none).length < ts.length := fun line ts => by
      induction ts with
      | nil => intro h; cases h
      | cons t ts ih =>
        intro h
        have le := List.length_filterMap_le (fun (e : Expr) => match e with
          | .Name id pos => if X.env.kindOf id == some .local && pos.line == line then some id else none
          | _ => none) ts
        rw [List.filterMap_cons]
        have h : (cellN sc t || anyCell sc ts) = true := h
        rcases Bool.or_eq_true_iff.mp h with h | h
        · cases t with
          | Name x px =>
            have e : X.env.kindOf x = some .cell := (r.cell x (of_decide_eq_true h)).1
            have e2 : (X.env.kindOf x == some .local) = false := by rw [e]; rfl
            simp only [e2, Bool.false_and, Bool.false_eq_true, if_false]
            exact Nat.lt_succ_of_le le
          | _ => cases h
        · have := ih h
          split
          · exact Nat.lt_succ_of_lt this
          · simp only [List.length_cons]; exact Nat.succ_lt_succ this
    have kk := key ((ts.head?.map (·.pos.line)).getD 0) ts h
    have ne : ∀ {a b : Nat}, a < b → (a != b) = true := fun h => by simp; omega
    unfold swappedStores
    dsimp only
    split
    · rfl
    · split
      · rfl
      · exact if_pos (Bool.or_eq_true_iff.mpr (.inl (ne kk)))
  | _ => rfl
theorem notStar' {Nm : Names} {N : List Str} {m : X} {sc : Scope} {e : Expr} (h : isE Nm N m sc e = true) : (match (generalizing := false) e with | .Starred .. => true | _ => false) = false := by
  cases e <;> first | rfl | (rw [notStar] at h; cases h)
theorem noStars {Nm : Names} {N : List Str} {sc : Scope} : ∀ {es : Xs} {us : List Expr}, isEs Nm N es sc us = true → (us.any fun | .Starred .. => true | _ => false) = false
  | .nil, [], _ => rfl
  | .nil, _ :: _, h => by simp [isEs] at h
  | .cons _ _, [], h => by simp [isEs] at h
  | .cons e es, u :: us, h => by
    have h' : isE Nm N e sc u = true ∧ isEs Nm N es sc us = true := by simpa [isEs] using h
    rw [List.any_cons, noStars h'.2, Bool.or_false]
    exact notStar' h'.1
/-! ### the context of a body -/
structure Stm (Nm : Names) (FA : Fns) (CA : Nat → Option Addr) (C : Cfg) (X : Cx) (W : WX) (w : W0) (sc : Scope) : Prop where
  c : Cok Nm FA CA C X W
  q : ScM Nm FA X w sc
  kind : X.env.scope.kind = .function
  hp : PassesOwn (model X.prog X.w) X.A X.env X.xe
section
variable {Nm : Names} {FA : Fns} {CA : Nat → Option Addr} {C : Cfg} {X : Cx} {W : WX} {w : W0} {sc : Scope} {Wf : Nat}
variable {σ : L2.St} {F F' F1 H H' H1 : Hp} {ts : List (Option V × O)} {Q : VK} {D : Ends} {n : Nat} {pu : Bool} {pr : List Nat} {σ0 : L2.St}
theorem s_setLc (S : Stm Nm FA CA C X W w sc) {i : Nat} {elt : RF.X} {t : Tg} {it : RF.It} {cd : Xo} {own : List Nat} {x : Str} {px pos : Pos} {u : Expr} (h : isE Nm X.N (.comp elt t it cd own) sc u = true) (hx : locB X.N sc i x = true) (hpr : i ∉ pr) (hsw : swB sc x px u = true) :
    PS X (.Assign [.Name x px] u pos) (tS X.K FA CA W w pr σ0 C Wf (.set i (.comp elt t it cd own))) := by
  have c := S.c
  have q := S.q
  have r := q.toScR
  unfold isE at h; split at h
  · rename_i u tg iu ifs sc' cp
    have h1 := ands h
    have h2 := ands h1.1
    have h3 := ands h2.1
    have h4 := ands h3.1
    have h5 := ands h4.1
    have h6 := ands h5.1
    have h7 := ands h6.1
    have hin : ∀ i ∈ tgSlots t, i ∈ own := fun i m => by simpa using List.all_eq_true.mp h5.2 i m
    have hl := locB_ok r hx
    have hsw : (decide (kd sc x = some .local) && (px.line == cp.line) && !(sc'.names.any fun (n, k) => n == x && (k == .local || k == .cell))) = true := hsw
    obtain ⟨q1, q2⟩ := ands hsw
    obtain ⟨q3, q4⟩ := ands q1
    have q5 := r.loc x (of_decide_eq_true q3)
    have eo : (ownOf X.N own).map (·.2) = own := by
      unfold ownOf
      rw [List.map_map]
      exact List.map_id' _
    have he : ∀ (s : Shared) (H : Hp) (C' : Addr) (cl : List (Str × Addr)) (fp : List Addr), PE (X.blk s H sc' (compEnvC sc' cl C' X.env) fp) u (tE X.K FA CA WF w C elt) := fun s H C' cl fp => (sE (w := w) elt (c.blk ..) q.blk h1.2).1
    have ht : ∀ (s : Shared) (H : Hp) (C' : Addr) (cl : List (Str × Addr)) (fp : List Addr), PTs (X.blk s H sc' (compEnvC sc' cl C' X.env) fp) ifs (tCond X.K FA CA w C cd) := fun s H C' cl fp => sIfs (w := w) cd (c.blk ..) q.blk h2.2
    have hg : ∀ (s : Shared) (H : Hp) (C' : Addr) (cl : List (Str × Addr)) (fp : List Addr), L2.PG (X.blk s H sc' (compEnvC sc' cl C' X.env) fp) tg (tTg' X.K FA w X.N.length t) := fun s H C' cl fp => c_tg (w := w) (c.blk ..) ScR.blk h3.2
    refine PS.impL (ps_setLc c.calm c.nd hl.1 q5 (sw_true S.kind q5 q4 (by simpa using q2)) (sIt (w := w) it c q h4.2) (blkOk_sc r h7.1) hg ht he (isIt_fold h4.2)) fun D σ H hn h => ?_
    have k := i_comp (of_decide_eq_true h6.2) hin σ H _ hn (s_store r hx hpr hn h)
    rw [eo]
    exact k
  · cases h
theorem comp_of {N : List Str} {e : RF.X} {u : Expr} {x : Str} {px : Pos} (h : isE Nm N e sc u = true) (hs : swB sc x px u = true) : ∃ elt t it cd own, e = .comp elt t it cd own := by
  cases u with
  | ListComp a b s p => cases e <;> first | exact ⟨_, _, _, _, _, rfl⟩ | exact Bool.noConfusion (show false = true from h)
  | _ => exact Bool.noConfusion (show false = true from hs)
theorem hs_store2 {v1 v2 : V} {o1 o2 : O} {env : Env} {i j : Nat} (hl : env.length = σ.length) (hi : i < σ.length) (hj : j < σ.length) {K : PySem.W.Frag} (s : Hs K FA w F H ((some v1, o1) :: (some v2, o2) :: (lv σ env ++ ts))) :
    Hs K FA w F H (lv ((σ.set i (some v1)).set j (some v2)) ((env.set i (some o1)).set j (some o2)) ++ ts) := by
  have s1 := s.perm (List.Perm.cons _ List.perm_middle.symm)
  have s2 := (s1.store hl hi).ofTemp
  exact s2.store (by simp [hl]) (by simpa using hj)
theorem s_par (S : Stm Nm FA CA C X W w sc) {is : List Nat} {es : Xs} {ts us : List Expr} {k1 k2 : Nat} {p1 p2 pos : Pos} (hi : isEs Nm X.N es sc us = true) (hp : parOk X.N sc is ts us = true) (hpr : ∀ i ∈ is, i ∉ pr) :
    PS X (.Assign [.Tuple ts k1 p1] (.Tuple us k2 p2) pos) (tS X.K FA CA W w pr σ0 C Wf (.par is es)) := by
  have c := S.c
  have q := S.q
  have r := q.toScR
  have bk : X.env.blockKind = .function := by unfold Env.blockKind; rw [S.kind]; rfl
  have ha := (sEs (w := w) es c q hi).1
  unfold parOk at hp
  have p1 := ands hp
  have p2 := ands p1.1
  have f1 : us.all (foldedForSure 8) = false := by simpa using p2.1
  have f2 : us.all (constantsAlone 8) = false := by simpa using p2.2
  have ns := noStars hi
  have hlen := isEs_len hi
  have h := p1.2
  split at h
  · rename_i i j x px y py a b
    simp only [Bool.and_eq_true, decide_eq_true_eq, Bool.not_eq_true'] at h
    obtain ⟨⟨⟨⟨⟨h1, h2⟩, h3⟩, h4⟩, h5⟩, h6⟩ := h
    have lx := r.loc x h3
    have ly := r.loc y h4
    have ij : i ≠ j := fun e => by
      subst e
      rw [h1] at h2
      obtain rfl := Option.some.inj h2
      simp at h5
    refine PS.impL (ps_par c.calm c.nd h1 h2 ij lx ly ha (swap2 bk lx ly h5 h6 ns f1 f2)) fun D σ H hn ⟨F, ts, env, kp, hl, s, post⟩ => ?_
    unfold evalS at post
    refine ⟨F, ts, env, hl, s, ?_⟩
    cases e1 : evalEs C es env with
    | no => rw [e1] at post; exact False.elim post
    | ex c ds => rw [e1] at post; exact fun H' F' od a e sf hr x => post σ H' F' od a e sf hr x
    | ok os env1 =>
      rw [e1] at post
      intro vs H' F' hl1 hv s1 sF _
      have hos : os.length = 2 := by rw [evalEs_len e1, hlen]; rfl
      match os, vs, hos, hv, s1, post with
      | [o1, o2], [v1, v2], _, _, s1, post =>
        have post : PostS X.K FA CA W w pr σ0 D σ.length F ts (.nx ((env1.set i (some o1)).set j (some o2))) := post
        exact ⟨v1, v2, rfl, post _ H' F' ⟨by simp, (kp.set (hpr _ (by simp))).set (hpr _ (by simp))⟩ (by simp [hl1]) (hs_store2 hl1 (by rw [hn]; exact isE_lt h1) (by rw [hn]; exact isE_lt h2) s1) sF⟩
  · rename_i i j l x px y py z pz a b d
    simp only [Bool.and_eq_true, decide_eq_true_eq, Bool.not_eq_true'] at h
    obtain ⟨⟨⟨⟨⟨⟨⟨⟨⟨⟨h1, h2⟩, h3⟩, h4⟩, h5⟩, h6⟩, h7⟩, h8⟩, h9⟩, h10⟩, h11⟩ := h
    have lx := r.loc x h4
    have ly := r.loc y h5
    have lz := r.loc z h6
    have ne : ∀ {i j : Nat} {x y : Str}, X.N[i]? = some x → X.N[j]? = some y → (x == y) = false → i ≠ j := fun {i j x y} h1 h2 h5 e => by
      subst e
      rw [h1] at h2
      obtain rfl := Option.some.inj h2
      simp at h5
    refine PS.impL (ps_par3 c.calm c.nd h1 h2 h3 (ne h1 h2 h7) (ne h1 h3 h8) (ne h2 h3 h9) lx ly lz ha (swap3 bk lx ly lz h7 h8 h9 h10 h11 ns f1 f2)) fun D σ H hn ⟨F, ts, env, kp, hl, s, post⟩ => ?_
    unfold evalS at post
    refine ⟨F, ts, env, hl, s, ?_⟩
    cases e1 : evalEs C es env with
    | no => rw [e1] at post; exact False.elim post
    | ex c ds => rw [e1] at post; exact fun H' F' od a e sf hr x => post σ H' F' od a e sf hr x
    | ok os env1 =>
      rw [e1] at post
      intro vs H' F' hl1 hv s1 sF _
      have hos : os.length = 3 := by rw [evalEs_len e1, hlen]; rfl
      match os, vs, hos, hv, s1, post with
      | [o1, o2, o3], [v1, v2, v3], _, _, s1, post =>
        have post : PostS X.K FA CA W w pr σ0 D σ.length F ts (.nx (((env1.set i (some o1)).set j (some o2)).set l (some o3))) := post
        have s1 : Hs X.K FA w F' H' ((some v1, o1) :: (some v2, o2) :: (some v3, o3) :: (lv σ env1 ++ ts)) := s1
        have s2 := s1.perm (List.Perm.cons _ (List.Perm.cons _ List.perm_middle.symm))
        have s3 := (hs_store2 hl1 (by rw [hn]; exact isE_lt h1) (by rw [hn]; exact isE_lt h2) s2).ofTemp
        have hl' : l < σ.length := by rw [hn]; exact isE_lt h3
        exact ⟨v1, v2, v3, rfl, post _ H' F' ⟨by simp, ((kp.set (hpr _ (by simp))).set (hpr _ (by simp))).set (hpr _ (by simp))⟩ (by simp [hl1]) (s3.store (by simp [hl1]) (by simpa using hl')) sF⟩
  · cases h
mutual
theorem sS (S : Stm Nm FA CA C X W w sc) : ∀ (m : RF.S) {st : Stmt}, isS Nm X.N pr sc m st = true → PS X st (tS X.K FA CA W w pr σ0 C Wf m)
  | .set i e, st, h => by
    unfold isS at h; split at h
    · rename_i x px u pos
      have h0 := ands h
      have h1 := ands h0.1
      have h2 := ands h1.1
      have hpr : i ∉ pr := by simpa using h0.2
      by_cases hc : kd sc x = some .cell
      · exact s_set S.c S.q.toScR h2.1 hpr (swapsCell (S.q.cell x hc).1) (sE e S.c S.q h2.2).1
      by_cases hu : isComp u = true
      · have h3 : swB sc x px u = true := by have := h1.2; rw [hu] at this; simpa [hc] using this
        obtain ⟨elt, t, it, cd, own, rfl⟩ := comp_of h2.2 h3
        exact s_setLc S h2.2 h2.1 hpr h3
      · exact s_set S.c S.q.toScR h2.1 hpr (swapsNo (by simpa using hu)) (sE e S.c S.q h2.2).1
    · cases h
  | .asg is e, st, h => by
    unfold isS at h; split at h
    · have h0 := ands h
      have h1 := ands h0.1
      have h2 := ands h1.1
      exact s_asg S.c S.q.toScR h2.1 (offB_ok h0.2) (fun _ _ z => by cases z) ((Bool.or_eq_true_iff.mp h1.2).elim swapNone fun z => swapCell S.q.toScR z) (by rfl) (sE e S.c S.q h2.2).1
    · cases h
  | .par is es, st, h => by
    unfold isS at h; split at h
    · have h0 := ands h
      have h1 := ands h0.1
      exact s_par S h1.1 h1.2 (offB_ok h0.2)
    · cases h
  | .sto i k e, st, h => by
    unfold isS at h; split at h
    · have h1 := ands h
      have h2 := ands h1.1
      exact s_sto S.q.toScR h2.1 h2.2 (sE k S.c S.q h2.2).1 (sE e S.c S.q h1.2).1
    · cases h
  | .app i e, st, h => by
    unfold isS at h; split at h
    · have h1 := ands h
      have h2 := ands h1.1
      have h3 := ands h2.1
      exact s_app S.q.toScR h3.1 h3.2 h2.2 h1.2 (sE e S.c S.q h1.2).1
    · cases h
  | .expr e, st, h => by
    unfold isS at h; split at h
    · have h1 := ands h
      exact s_expr (by simpa using h1.2) (sE e S.c S.q h1.1).1
    · cases h
  | .ret e, st, h => by
    unfold isS at h; split at h
    · exact s_ret S.q.toScR h (sE e S.c S.q h).1
    · cases h
  | .ret0, st, h => by
    unfold isS at h; split at h
    · exact s_ret0
    · cases h
  | .ite e a b, st, h => by
    unfold isS at h; split at h
    · have h1 := ands h
      have h2 := ands h1.1
      exact s_ite (sE e S.c S.q h2.1).2 (sSs S a h2.2) (sSs S b h1.2)
    · cases h
  | .for t it b, st, h => by
    unfold isS at h; split at h
    · have h0 := ands h
      have h1 := ands h0.1
      have h2 := ands h1.1
      exact s_for S.c S.q.toScR S.hp (sIt it S.c S.q h2.1) (isIt_fold h2.1) h2.2 (offB_ok h0.2) (sSs S b h1.2)
    · cases h
  | .whl e b, st, h => by
    unfold isS at h; split at h
    · have h1 := ands h
      exact s_whl S.hp (sE e S.c S.q h1.1).2 (sSs S b h1.2)
    · cases h
  | .pass, st, h => by
    unfold isS at h; split at h
    · exact s_pass
    · cases h
  | .raise k e, st, h => by
    unfold isS at h; split at h
    · have h1 := ands h
      have h2 := ands h1.1
      exact s_raise S.c S.q.toScR (of_decide_eq_true h2.1) h2.2 h1.2 (sE e S.c S.q h1.2).1
    · cases h
  | .tryE i j e, st, h => by
    unfold isS at h; cases h
  | .each i j n, st, h => by
    unfold isS at h; split at h
    · have h0 := ands h
      have h1 := ands h0.1
      have h2 := ands h1.1
      have h3 := ands h2.1
      have h4 := ands h3.1
      have h5 := ands h4.1
      have h6 := ands h5.1
      exact s_each S.c S.q.toScR S.hp h6.1 h6.2 h5.2 h4.2 h3.2 h2.2 (by simpa using h1.2) (by simpa using h0.2) (sE (.n n) S.c S.q h2.2).1
    · cases h
  | .never, st, h => PS.impL ps_never fun D σ H hn ⟨F, ts, env, kp, hl, s, post⟩ => (by unfold evalS at post; exact post)
theorem sSs (S : Stm Nm FA CA C X W w sc) : ∀ (m : RF.Ss) {st : List Stmt}, isSs Nm X.N pr sc m st = true → PSs X st (tSs X.K FA CA W w pr σ0 C Wf m)
  | .nil, st, h => by
    unfold isSs at h; split at h
    · exact PSs.impL pss_nil fun D σ H hn ⟨F, ts, env, kp, hl, s, post⟩ => (by
        unfold evalSs at post
        exact post σ H F ⟨rfl, kp⟩ hl s (Sub.refl _))
    · cases h
  | .cons m r, st, h => by
    unfold isSs at h; split at h
    · have h1 := ands h
      refine PSs.impL (pss_cons (sS S m h1.1) (sSs S r h1.2)) fun D σ H hn ⟨F, ts, env, kp, hl, s, post⟩ => ?_
      unfold evalSs at post
      refine ⟨F, ts, env, kp, hl, s, PostS.seq' post fun env4 _ σ4 H4 F4 a4 b4 s4 sf4 post => ⟨F4, ts, env4, a4.2, by rw [b4, a4.1], s4, by rw [a4.1]; exact post⟩⟩
    · cases h
end
end
end RF
/-! RFu: a try at the top of a def's body. -/
namespace RF
open L2 PySem PySem.Spec PyProof.Rows
def isTry (Nm : Names) (N : List Str) (pr : List Nat) (sc : Scope) : S → Stmt → Bool
  | .tryE i j e, st => (match st with
    | .Try [.Expr u _] [.ExceptHandler (some (.Name x _)) (some n) [.Assign [.Name m _] (.Name n2 _) _] _] [] [] _ =>
      isE Nm N e sc u && !isComp u && decide (Nm.fit = some x) && glB sc x && decide (N[i]? = some n) && decide (kd sc n = some .local) && decide (N[j]? = some m) && decide (kd sc m = some .local) && decide (n2 = n) && !pr.contains i && !pr.contains j && !(n == "__debug__") && !(n == "__classdict__")
    | _ => false)
  | _, _ => false
def isTop (Nm : Names) (N : List Str) (pr : List Nat) (sc : Scope) : Ss → List Stmt → Bool
  | .nil, st => (match st with | [] => true | _ => false)
  | .cons s r, st => (match st with | t :: ts => (isS Nm N pr sc s t || isTry Nm N pr sc s t) && isTop Nm N pr sc r ts | _ => false)
section
variable {K : PySem.W.Frag} {FA : Fns} {w : W0} {F F' H H' : Hp}
theorem repL_z : ∀ {σ : L2.St} {env : Env}, env.length = σ.length → (∀ (k : Nat) (o : O), env[k]? = some (some o) → ∃ v d, o = .z d ∧ σ[k]? = some (some v) ∧ Rep K FA F v d) → RepL K FA F H (lv σ env) []
  | [], [], _, _ => .nil
  | [], _ :: _, h, _ => by simp at h
  | _ :: _, [], h, _ => by simp at h
  | u :: σ, x :: env, h, q => by
    have r := repL_z (σ := σ) (env := env) (by simpa using h) fun k o e => by
      obtain ⟨v, d, e1, e2, e3⟩ := q (k + 1) o (by simpa using e)
      exact ⟨v, d, e1, by simpa using e2, e3⟩
    cases x with
    | none => exact r
    | some o =>
      obtain ⟨v, d, rfl, e2, e3⟩ := q 0 o rfl
      obtain rfl : u = some v := by simpa using e2
      exact RepL.cons (A := []) (.z e3) r
/-- the caught error stands for good -/
theorem HR.keepExc (hr : HR w F H) {a dx C : Addr} {v : V} (na : H a = none) (hd : H dx = some (.xd [("value", v)])) :
    ∃ F2, Sub F F2 ∧ HR w F2 (upd H a (RX.exk (.ref C) (some dx) a)) ∧ F2 a = some (RX.exk (.ref C) (some dx) a) ∧ F2 dx = some (.xd [("value", v)]) := by
  have nd : dx ≠ a := fun z => by rw [z, na] at hd; cases hd
  have fa : F a = none := by
    cases e : F a with
    | none => rfl
    | some o => rw [hr.sub _ _ e] at na; cases na
  have fd : ∀ o, F dx = some o → o = .xd [("value", v)] := fun o e => by
    have := hr.sub _ _ e
    rw [hd] at this; exact (Option.some.inj this).symm
  let F2 : Hp := upd (upd F dx (.xd [("value", v)])) a (RX.exk (.ref C) (some dx) a)
  have f2a : F2 a = some (RX.exk (.ref C) (some dx) a) := upd_same
  have f2d : F2 dx = some (.xd [("value", v)]) := by show upd _ _ _ _ = _; rw [upd_ne nd, upd_same]
  have f2n : ∀ b, b ≠ a → b ≠ dx → F2 b = F b := fun b h1 h2 => by show upd _ _ _ _ = _; rw [upd_ne h1, upd_ne h2]
  have sF : Sub F F2 := fun b o e => by
    by_cases h1 : b = a
    · rw [h1, fa] at e; cases e
    · by_cases h2 : b = dx
      · rw [h2] at e ⊢
        rw [fd o e]; exact f2d
      · rw [f2n b h1 h2]; exact e
  refine ⟨F2, sF, ⟨fun b o e => ?_, hr.sub0.trans sF, fun b o e => ?_, fun b o e m => ?_, fun b e => ?_, fun b xs e => ?_, Tabs.stay hr.tabs fun b o e _ => ?_, fun b ps e => ?_⟩, f2a, f2d⟩
  · by_cases h1 : b = a
    · rw [h1] at e ⊢; rw [f2a] at e; rw [upd_same]; exact e
    · rw [upd_ne h1]
      by_cases h2 : b = dx
      · rw [h2] at e ⊢; rw [f2d] at e; rw [hd]; exact e
      · rw [f2n b h1 h2] at e; exact hr.sub b o e
  · by_cases h1 : b = a
    · rw [h1]; exact .inr (.inl (hr.dom a na))
    · by_cases h2 : b = dx
      · rw [h2] at e ⊢
        rw [f2d] at e
        obtain rfl := Option.some.inj e
        cases q : w.H0 dx with
        | none => exact .inr (.inl rfl)
        | some o0 =>
          by_cases m : dx ∈ w.M
          · exact .inr (.inr (.inl m))
          · have k := hr.keep dx o0 q m
            rw [hd] at k
            obtain rfl := Option.some.inj k
            exact .inr (.inr (.inr ⟨rfl, fun xs z => by cases z⟩))
      · rw [f2n b h1 h2] at e; exact hr.new b o e
  · have k := hr.keep b o e m
    rw [upd_ne (fun z => by rw [z, na] at k; cases k)]; exact k
  · by_cases h1 : b = a
    · rw [h1, upd_same] at e; cases e
    · rw [upd_ne h1] at e; exact hr.dom b e
  · by_cases h1 : b = a
    · rw [h1, upd_same] at e; exact absurd (Option.some.inj e) RX.exk_tup
    · rw [upd_ne h1] at e
      exact sF b _ (hr.tups b xs e)
  · rw [upd_ne (fun z => by rw [z, na] at e; cases e)]; exact e
  · by_cases h1 : b = a
    · rw [h1, f2a] at e; exact RX.exk_tbl (Option.some.inj e)
    · by_cases h2 : b = dx
      · rw [h2, f2d] at e; cases e
      · rw [f2n b h1 h2] at e; exact hr.ntb b ps e
end
theorem stay_len (env : Env) : (stay env).length = env.length := by unfold stay; simp
theorem stay_get {env : Env} {k : Nat} {o : O} (h : (stay env)[k]? = some (some o)) : ∃ d, o = .z d ∧ env[k]? = some (some (.z d)) := by
  unfold stay at h
  rw [List.getElem?_map] at h
  cases e : env[k]? with
  | none => rw [e] at h; cases h
  | some x =>
    rw [e] at h
    cases x with
    | none => simp at h
    | some o' => cases o' <;> simp at h; exact ⟨_, h.symm, rfl⟩
theorem Cok.tr {Nm : Names} {FA : Fns} {CA : Nat → Option Addr} {C : Cfg} {X : Cx} {W W' : WX} (c : Cok Nm FA CA C X W) {pn : List (Addr × Obj)} {xe : Value → Shared → Prop} (tk : Takes (X.tr pn xe) W') : Cok Nm FA CA C (X.tr pn xe) W' :=
  ⟨c.calm, c.nd, c.un, tk, c.fns, c.lam, c.has, c.kns, c.blt, c.gd, c.rm, c.ca, c.cls, fun k a h => let q := c.clf k a h; ⟨q.ini, q.xf, q.ex⟩, c.isc, c.fit⟩
theorem ScM.tr {Nm : Names} {FA : Fns} {X : Cx} {w : W0} {sc : Scope} (q : ScM Nm FA X w sc) {pn : List (Addr × Obj)} {xe : Value → Shared → Prop} : ScM Nm FA (X.tr pn xe) w sc :=
  ⟨⟨q.loc, q.cell, q.free, q.glob⟩, fun z => let m := q.mks z; ⟨m.tab, m.ml⟩⟩
/-- the frame of a def's own body -/
structure Own (X : Cx) : Prop where
  stack : X.stack = X.env :: X.outer
  frame : X.env.frame = some X.env.locals
  ex : X.ex = []
section
variable (K : PySem.W.Frag) (FA : Fns) (CA : Nat → Option Addr) (W : WX) (w : W0) (pr : List Nat) (σ0 : L2.St)
def tTop (C : Cfg) (Wf : Nat) (m : Ss) : TS := fun D σ H => ∃ F env, Kp pr σ0 σ ∧ env.length = σ.length ∧ Hs K FA w F H (lv σ env ++ []) ∧ PostS K FA CA W w pr σ0 D σ.length F [] (evalSs C Wf m env)
end
section
variable {Nm : Names} {FA : Fns} {CA : Nat → Option Addr} {C : Cfg} {X : Cx} {W : WX} {w : W0} {sc : Scope} {Wf : Nat}
variable {σ : L2.St} {F F' F1 H H' H1 : Hp} {ts : List (Option V × O)} {Q : VK} {D : Ends} {n : Nat} {pu : Bool} {pr : List Nat} {σ0 : L2.St}
theorem s_try (S : Stm Nm FA CA C X W w sc) (O : Own X) {i j : Nat} {e : RF.X} {st : Stmt} (h : isTry Nm X.N pr sc (.tryE i j e) st = true) {r : Ss} :
    ∃ t, PS X st t ∧ ∀ (D : Ends) (σ : L2.St) (H : Hp), σ.length = X.N.length → tTop X.K FA CA W w pr σ0 C Wf (.cons (.tryE i j e) r) D σ H → t { D with nx := fun σ' H' => tTop X.K FA CA W w pr σ0 C Wf r D σ' H' } σ H := by
  unfold isTry at h; simp only at h; split at h
  · rename_i u p0 x p1 nn m p2 n2 p3 p4 p5 p6
    simp only [Bool.and_eq_true, decide_eq_true_eq, Bool.not_eq_true'] at h
    obtain ⟨⟨⟨⟨⟨⟨⟨⟨⟨⟨⟨⟨h1, h2⟩, h3⟩, h4⟩, h5⟩, h6⟩, h7⟩, h8⟩, h9⟩, h10⟩, h11⟩, h12⟩, h13⟩ := h
    subst h9
    obtain ⟨b, mb, hb⟩ := S.c.fit x h3
    obtain ⟨g1, g2⟩ := glB_ok S.q.toScR h4
    have body : ∀ (W' : WX) (pn : List (Addr × Obj)) (xe : Value → Shared → Prop), Takes (X.tr pn xe) W' → PassesOwn (model X.prog X.w) X.A X.env xe → PSs (X.tr pn xe) [.Expr u p0] (tSeq (tDrop (tE X.K FA CA W' w C e)) tNext) := fun W' pn xe tk _ =>
      pss_cons (ps_expr (sE (X := X.tr pn xe) (W := W') e (S.c.tr tk) S.q.tr h1).1 (swapsNo h2)) pss_nil
    refine ⟨_, RX.ps_try_keep O.stack O.frame O.ex S.c.nd h5 (S.q.loc _ h6) h7 (S.q.loc _ h8) h12 h13 ⟨g1, g2, .inl mb⟩ body, fun D σ H hn ⟨F, env, kp, hl, s, post⟩ => ?_⟩
    refine ⟨F, [], env, hl, s, ?_⟩
    have hi : i ∉ pr := by simpa using h10
    have hj : j ∉ pr := by simpa using h11
    unfold evalSs evalS at post
    cases ee : evalE C e env with
    | no => rw [ee] at post; exact False.elim post
    | ok o env1 =>
      rw [ee] at post
      exact fun v H' F' hl' s' sF _ => ⟨F', env1, kp, hl', s'.tail, PostS.rebase post sF⟩
    | ex k ds =>
      rw [ee] at post
      match ds, post with
      | [d], post =>
        intro H' F' od a hca sF hr x
        refine ⟨hb k a (by rw [← S.c.ca]; exact hca), fun a' na => ?_⟩
        rcases x with x | ⟨dx, v, d', e1, e2, e3, e4⟩
        · cases x
        · cases e1
          subst e2
          obtain ⟨F2, sF2, hr2, f2a, f2d⟩ := hr.keepExc (C := a) na e3
          have il : i < σ.length := by rw [hn]; exact (List.getElem?_eq_some_iff.mp h5).1
          have jl : j < σ.length := by rw [hn]; exact (List.getElem?_eq_some_iff.mp h7).1
          have rl : RepL X.K FA F2 (upd H' a' (RX.exk (.ref a) (some dx) a')) (lv (((σ.set i (some (.ref a'))).set j (some (.ref a'))).set i none) (((stay env).set j (some (.z (.exc k [d])))).set i none)) [] := by
            refine repL_z (by simp [stay_len, hl]) fun q o hq => ?_
            by_cases q1 : q = i
            · subst q1
              rw [List.getElem?_set_self (by simp [stay_len, hl, il])] at hq; cases hq
            · rw [List.getElem?_set_ne (Ne.symm q1)] at hq
              rw [List.getElem?_set_ne (Ne.symm q1)]
              by_cases q2 : q = j
              · subst q2
                rw [List.getElem?_set_self (by simp [stay_len, hl, jl])] at hq
                obtain rfl := Option.some.inj (Option.some.inj hq)
                exact ⟨.ref a', _, rfl, by rw [List.getElem?_set_self (by simpa using jl)], .exc (by rw [← S.c.ca]; exact hca) f2a f2d (e4.mono sF2)⟩
              · rw [List.getElem?_set_ne (Ne.symm q2)] at hq
                rw [List.getElem?_set_ne (Ne.symm q2), List.getElem?_set_ne (Ne.symm q1)]
                obtain ⟨d0, rfl, hq0⟩ := stay_get hq
                obtain ⟨v0, e5, r5⟩ := s.slotRep hl (show getE env q = some (.z d0) by unfold getE; rw [hq0]; rfl)
                exact ⟨v0, d0, rfl, e5, (r5.mono sF).mono sF2⟩
          refine ⟨F2, ((stay env).set j (some (.z (.exc k [d])))).set i none, ((kp.set hi).set hj).set hi, by simp [stay_len, hl], ⟨hr2, [], by rw [List.append_nil]; exact rl, List.nodup_nil, fun _ m => nomatch m⟩, ?_⟩
          have el : (((σ.set i (some (.ref a'))).set j (some (.ref a'))).set i none).length = σ.length := by simp
          rw [el]
          exact PostS.rebase post (sF.trans sF2)
      | [], post => exact False.elim post
      | _ :: _ :: _, post => exact False.elim post
  · cases h
theorem sTop (S : Stm Nm FA CA C X W w sc) (O : Own X) : ∀ (m : RF.Ss) {st : List Stmt}, isTop Nm X.N pr sc m st = true → ∃ t, PSs X st t ∧ ∀ (D : Ends) (σ : L2.St) (H : Hp), σ.length = X.N.length → tTop X.K FA CA W w pr σ0 C Wf m D σ H → t D σ H
  | .nil, st, h => by
    unfold isTop at h; split at h
    · exact ⟨_, pss_nil, fun D σ H hn ⟨F, env, kp, hl, s, post⟩ => (by
        unfold evalSs at post
        exact post σ H F ⟨rfl, kp⟩ hl s (Sub.refl _))⟩
    · cases h
  | .cons m r, st, h => by
    unfold isTop at h; split at h
    · rename_i t ts
      obtain ⟨h1, h2⟩ := ands h
      obtain ⟨t2, p2, i2⟩ := sTop S O r h2
      have p3 : PSs X ts (tTop X.K FA CA W w pr σ0 C Wf r) := PSs.impL p2 i2
      rcases Bool.or_eq_true_iff.mp h1 with h1 | h1
      · refine ⟨_, pss_cons (sS (σ0 := σ0) (Wf := Wf) S m h1) p3, fun D σ H hn ⟨F, env, kp, hl, s, post⟩ => ?_⟩
        unfold evalSs at post
        exact ⟨F, [], env, kp, hl, s, PostS.seq' post fun env4 _ σ4 H4 F4 a4 b4 s4 sf4 post => ⟨F4, env4, a4.2, by rw [b4, a4.1], s4, by rw [a4.1]; exact post⟩⟩
      · cases m with
        | tryE i j e =>
          obtain ⟨t1, p1, i1⟩ := s_try (σ0 := σ0) (Wf := Wf) S O h1 (r := r)
          exact ⟨_, pss_cons p1 p3, fun D σ H hn q => i1 D σ H hn q⟩
        | _ => simp [isTry] at h1
    · cases h
end
end RF
/-! RFs: defs. -/
namespace RF
open L2 PySem PySem.Spec PyProof.Rows
theorem start_get {N : List Str} {vs : List V} {i : Nat} {v : V} (h : vs[i]? = some v) : (start N vs)[i]? = some (some v) := by
  have hi := (List.getElem?_eq_some_iff.mp h).1
  unfold L2.start
  rw [List.getElem?_append_left (by simpa using hi), List.getElem?_map, h]
  rfl
theorem lv_nones : ∀ (σ : L2.St) (n : Nat), lv σ (List.replicate n none) = []
  | [], _ => by simp [lv]
  | _ :: _, 0 => by simp [lv]
  | u :: σ, n + 1 => by rw [List.replicate_succ, lv_none]; exact lv_nones σ n
theorem lv_start {N : List Str} : ∀ {vs : List V} {os : List O} {τ : L2.St} {n : Nat}, vs.length = os.length → lv (vs.map some ++ τ) (os.map some ++ List.replicate n none) = (vs.map some).zip os
  | [], [], τ, n, _ => lv_nones τ n
  | [], _ :: _, _, _, h => by simp at h
  | _ :: _, [], _, _, h => by simp at h
  | v :: vs, o :: os, τ, n, h => by
    show lv (some v :: (vs.map some ++ τ)) (some o :: (os.map some ++ List.replicate n none)) = (some v, o) :: (vs.map some).zip os
    rw [lv_some, lv_start (N := N) (by simpa using h)]
theorem modeOk_len : ∀ {ms : List Bool} {os : List O}, modeOk ms os = true → os.length = ms.length
  | [], [], _ => rfl
  | [], _ :: _, h => by simp [modeOk] at h
  | _ :: _, [], h => by simp [modeOk] at h
  | false :: ms, .z d :: os, h => by
    have h' : modeOk ms os = true := h
    simp [modeOk_len h']
  | false :: ms, .l _ :: os, h => by simp [modeOk] at h
  | false :: ms, .t _ :: os, h => by simp [modeOk] at h
  | true :: ms, .l us :: os, h => by
    have h' : (us.all O.isZ && modeOk ms os) = true := h
    simp [modeOk_len (ands h').2]
  | true :: ms, .z _ :: os, h => by simp [modeOk] at h
  | true :: ms, .t _ :: os, h => by simp [modeOk] at h
/-- the parameters that are changed -/
def prOf (ms : List Bool) : List Nat := (List.range ms.length).filter fun i => ms.getD i false
theorem prOf_mem {ms : List Bool} {j : Nat} (h : ms[j]? = some true) : j ∈ prOf ms := by
  unfold prOf
  rw [List.mem_filter, List.mem_range]
  have hi := (List.getElem?_eq_some_iff.mp h).1
  exact ⟨hi, by simp [List.getD, h]⟩
section
variable {K : PySem.W.Frag} {FA : Fns} {CA : Nat → Option Addr} {w : W0} {F H : Hp} {σ : L2.St}
theorem Hs.dropL : ∀ {l ts : List (Option V × O)}, Hs K FA w F H (l ++ ts) → Hs K FA w F H ts
  | [], _, s => s
  | _ :: l, ts, s => Hs.dropL (l := l) (Hs.tail s)
theorem outs_set : ∀ {ms : List Bool} {env : Env} {i k : Nat} {o : Option O}, i < k → outs? (env.set i o) ms k = outs? env ms k
  | [], _, _, _, _, _ => rfl
  | false :: ms, env, i, k, o, h => outs_set (ms := ms) (Nat.lt_succ_of_lt h)
  | true :: ms, env, i, k, o, h => by
    have ih := outs_set (ms := ms) (env := env) (o := o) (Nat.lt_succ_of_lt h)
    show (match getE (env.set i o) k with | some (.l os) => (outs? (env.set i o) ms (k + 1)).map (O.l os :: ·) | _ => none) = (match getE env k with | some (.l os) => (outs? env ms (k + 1)).map (O.l os :: ·) | _ => none)
    rw [getE_set_ne (Nat.ne_of_lt h), ih]
theorem outs_ok : ∀ {ms : List Bool} {k : Nat} {vs : List V} {outs : List O} {env : Env} {ts : List (Option V × O)}, env.length = σ.length → outs? env ms k = some outs → (∀ j v, ms[j]? = some true → vs[j]? = some v → σ[k + j]? = some (some v)) →
    vs.length = ms.length → Hs K FA w F H (lv σ env ++ ts) → Hs K FA w F H (outsOf ms vs outs ++ ts)
  | [], k, vs, outs, env, ts, hl, e, hv, hn, s => by
    have : outsOf [] vs outs = [] := by cases vs <;> rfl
    rw [this]
    exact s.dropL
  | _ :: _, _, [], _, _, _, _, _, _, hn, _ => by simp at hn
  | false :: ms, k, v :: vs, outs, env, ts, hl, e, hv, hn, s => by
    have e : outs? env ms (k + 1) = some outs := e
    show Hs K FA w F H (outsOf ms vs outs ++ ts)
    exact outs_ok hl e (fun j v h1 h2 => by have := hv (j + 1) v h1 h2; rw [← this]; congr 1; omega) (by simpa using hn) s
  | true :: ms, k, v :: vs, outs, env, ts, hl, e, hv, hn, s => by
    have e : (match getE env k with | some (.l os) => (outs? env ms (k + 1)).map (O.l os :: ·) | _ => none) = some outs := e
    cases e1 : getE env k with
    | none => rw [e1] at e; cases e
    | some o =>
      rw [e1] at e
      cases o with
      | z d => cases e
      | t os => cases e
      | l os =>
        have e : (outs? env ms (k + 1)).map (O.l os :: ·) = some outs := e
        cases e2 : outs? env ms (k + 1) with
        | none => rw [e2] at e; cases e
        | some outs2 =>
          rw [e2] at e
          obtain rfl := Option.some.inj e
          obtain ⟨v', e3, s1⟩ := s.take hl e1
          have e4 := hv 0 v rfl rfl
          rw [Nat.add_zero, e3] at e4
          obtain rfl : v' = v := by simpa using e4
          have e5 : outs? (env.set k none) ms (k + 1) = some outs2 := by rw [← e2]; exact outs_set (Nat.lt_succ_self k)
          have s2 := outs_ok (by rw [List.length_set]; exact hl) e5 (fun j v h1 h2 => by have := hv (j + 1) v h1 h2; rw [← this]; congr 1; omega) (by simpa using hn) s1.toTemp
          exact s2.perm List.perm_middle
end
/-! ### the defs of the text -/
structure TopOk (P : Program) (K : PySem.W.Frag) (mg : Str → Option Value) (base : Heap) (Nm : Names) (FA : Fns) (FD : Nat → FuncData) (T : Nat → Option Fd) : Prop where
  mks : Nm.mks = false
  fns : ∀ f a, FA f = some a → ∃ x, Nm.fn f = some x ∧ mg x = some (.ref a) ∧ PySem.W.keepIn K (.ref a) = true ∧ Binds K (FD f) (Nm.pars f) [] ∧
    (∀ n ks perm, (f, n, ks, perm) ∈ Nm.kw → ∀ (s : Shared) (us ws : List Value), K.In s.heap → us.length = n → ws.length = ks.length → BindsTo s (FD f) ⟨us, ks.zip ws⟩ ((Nm.pars f).zip (permL .none us ws perm))) ∧
    ∃ nm qual params body scope dvs kws F N, FunD K nm qual params body scope dvs kws a (FD f) ∧ T f = some F ∧ FnScope N (Nm.pars f) scope ∧ isTop Nm N (prOf F.modes) scope F.body body = true ∧ F.modes.length = (Nm.pars f).length ∧ F.slots = N.length
  lam : ∀ k L, FA.ml k L → ∃ (ps N : List Str) (e : X), (∀ (c : Addr) (pm ctv : Value) (us : List Value), us.length = ps.length → bindArgs (L.fd c pm ctv) ⟨us, []⟩ = pure (ps.zip us)) ∧
    T k = some ⟨List.replicate ps.length false, N.length, .cons (.ret e) .nil⟩ ∧ (∀ i, e ≠ .v i) ∧ NdefX.nscB N ps [] L.scope = true ∧ isE { Nm with lamB := fun _ _ _ _ => false } N e L.scope L.body = true
  has : ∀ f x, Nm.fn f = some x → ∃ a, FA f = some a
  kns : ∀ j x i, Nm.kn j = some (x, i) → ∃ t, mg x = some (.int i t)
  blt : ∀ x ∈ bltNames, mg x = none
  cls : ∀ c x, Nm.cl c = some x → ∃ a, FA.ca c = some a ∧ mg x = some (.ref a)
  clf : ∀ c a, FA.ca c = some a → (∃ fI cc F, RX.IniF P K mg base a fI cc F) ∧ XfC K a ∧ ExcC K a
  isc : ∀ c a k b, FA.ca c = some a → FA.ca k = some b → PySem.W.kitOne K (.ref a) (.ref b) = some (c == k)
  fit : ∀ x, Nm.fit = some x → ∃ b, mg x = some (.ref b) ∧ ∀ c a, FA.ca c = some a → PySem.W.exmOne K (.ref a) (.ref b) = some true
/-- a promise with tables -/
def spGT (TM : List Addr) (TT : List (Addr × Str)) (K : PySem.W.Frag) (FA : Fns) (CA : Nat → Option Addr) (ms : List Bool) (r : List O → CR) : Sp := fun vs H Q E =>
  ∃ (F : Hp) (os : List O), vs.length = ms.length ∧ modeOk ms os = true ∧ Hs K FA ⟨H, TM ++ topA vs os, F, TT⟩ F H ((vs.map some).zip os) ∧
    match r os with
    | .rt o outs => ∀ v H' F', Sub F F' → Hs K FA ⟨H, TM ++ topA vs os, F, TT⟩ F' H' ((some v, o) :: outsOf ms vs outs) → Q v H'
    | .ex c ds => ∀ H' F' od a, CA c = some a → Sub F F' → HR ⟨H, TM ++ topA vs os, F, TT⟩ F' H' → ExcAt K FA F' H' ds od → E (.ref a) od H'
    | .no => False
section
variable {K : PySem.W.Frag} {FA : Fns} {CA : Nat → Option Addr} {W : WX} {w0 : W0} {H : Hp} {Q : VK} {E : XK} {N : List Str} {vs : List V} {os : List O} {F0 : Hp} {C : Cfg} {Wf : Nat} {F : Fd}
/-- from a def's promise to its body's reading -/
theorem body_start (h1 : vs.length = F.modes.length) (hos : os.length = F.modes.length) (hle : F.modes.length ≤ N.length) (hsl : F.slots = N.length) (h3 : Hs K FA w0 F0 H ((vs.map some).zip os)) (hW : ∀ a od σ H', E a od H' → W a od σ H')
    (h4 : match runF C Wf F os with
      | .rt o outs => ∀ v H' F', Sub F0 F' → Hs K FA w0 F' H' ((some v, o) :: outsOf F.modes vs outs) → Q v H'
      | .ex c ds => ∀ H' F' od a, CA c = some a → Sub F0 F' → HR w0 F' H' → ExcAt K FA F' H' ds od → E (.ref a) od H'
      | .no => False) :
    tTop K FA CA W w0 (prOf F.modes) (L2.start N vs) C Wf F.body { nx := fun _ H' => Q .non H', rt := Q } (L2.start N vs) H := by
  refine ⟨F0, os.map some ++ List.replicate (F.slots - os.length) none, fun i _ => rfl, ?_, ?_, ?_⟩
  · unfold L2.start
    simp only [List.length_append, List.length_map, List.length_replicate]
    rw [h1, hos, hsl]
  · rw [List.append_nil]
    unfold L2.start
    rw [lv_start (N := N) (by rw [h1, hos])]
    exact h3
  · unfold runF at h4
    rw [if_pos hos] at h4
    have hlen : (L2.start N vs).length = N.length := by
      unfold L2.start
      simp only [List.length_append, List.length_map, List.length_replicate]
      omega
    have kp : ∀ {σ' : L2.St}, Kp (prOf F.modes) (L2.start N vs) σ' → ∀ j v, F.modes[j]? = some true → vs[j]? = some v → σ'[0 + j]? = some (some v) := fun {σ'} k j v h1 h2 => by
      rw [Nat.zero_add, k j (prOf_mem h1)]
      exact start_get h2
    revert h4
    generalize evalSs C Wf F.body (os.map some ++ List.replicate (F.slots - os.length) none) = res
    intro h4
    cases res with
    | nx env =>
      intro σ' H' F' hk hl s sF
      have h4 : (match (match outs? env F.modes 0 with | some outs => CR.rt (.z .non) outs | none => .no) with
        | .rt o outs => ∀ v H' F', Sub F0 F' → Hs K FA w0 F' H' ((some v, o) :: outsOf F.modes vs outs) → Q v H'
        | .ex c ds => ∀ H' F' od a, CA c = some a → Sub F0 F' → HR w0 F' H' → ExcAt K FA F' H' ds od → E (.ref a) od H'
        | .no => False) := h4
      cases eo : outs? env F.modes 0 with
      | none => rw [eo] at h4; exact False.elim h4
      | some outs =>
        rw [eo] at h4
        have s2 := outs_ok (by rw [hl, hk.1]) eo (kp hk.2) h1 s
        rw [List.append_nil] at s2
        exact h4 .non H' F' sF (s2.add .non)
    | rt o env =>
      intro v σ' H' F' hk hl s sF
      have h4 : (match (match outs? env F.modes 0 with | some outs => CR.rt o outs | none => .no) with
        | .rt o outs => ∀ v H' F', Sub F0 F' → Hs K FA w0 F' H' ((some v, o) :: outsOf F.modes vs outs) → Q v H'
        | .ex c ds => ∀ H' F' od a, CA c = some a → Sub F0 F' → HR w0 F' H' → ExcAt K FA F' H' ds od → E (.ref a) od H'
        | .no => False) := h4
      cases eo : outs? env F.modes 0 with
      | none => rw [eo] at h4; exact False.elim h4
      | some outs =>
        rw [eo] at h4
        have s2 := outs_ok (by rw [hl, hk.1]) eo (kp hk.2) h1 s.toTemp
        have s3 := s2.perm List.perm_middle
        rw [List.append_nil] at s3
        exact h4 v H' F' sF s3
    | ex c ds => exact fun σ' H' F' od a ea sF hr x => hW _ _ _ _ (h4 H' F' od a ea sF hr x)
    | no => exact h4
end
theorem Cok.mk' {Nm : Names} {FA : Fns} {FD : Nat → FuncData} {T : Nat → Option Fd} {Wf n : Nat} {X : Cx} {W : WX} (t : TopOk X.prog X.K X.mg X.base Nm FA FD T) (m : Bool) (lB : Nat → Arguments → Scope → Expr → Bool) (hc : X.calm = true) (hN : X.N.Nodup) (hu : X.A.units + 65 < cLine) (tk : Takes X W) (hr : Room (n + 2) X.A) (hg : X.A.guards = some [])
    (h1 : ∀ f a, FA f = some a → FnG X.prog X.w X.K X.mg X.base (L2.CX X.prog X.w) (n + 2) a (FD f) (Nm.pars f) (spG X.K FA FA.ca (sigT T f) (G T Wf n f)))
    (h2 : ∀ k L, FA.ml k L → ∃ ps : List Str, (∀ (c : Addr) (pm ctv : Value) (us : List Value), us.length = ps.length → bindArgs (L.fd c pm ctv) ⟨us, []⟩ = pure (ps.zip us)) ∧
      ∀ f c pm ctv, FnG X.prog X.w X.K X.mg X.base (L2.CX X.prog X.w) (n + 2) f (L.fd c pm ctv) ps (spK X.K FA FA.ca (sigT T k) (G T Wf n k) f c L pm ctv)) :
    Cok { Nm with mks := m, lamB := lB } FA FA.ca ⟨G T Wf n, sigT T⟩ X W := by
  refine ⟨hc, hN, hu, tk, fun g b eb => ?_, fun k L hk => ?_, t.has, t.kns, t.blt, hg, hr.mono (by omega), rfl, t.cls, fun c a h => let q := t.clf c a h; ⟨q.1, q.2.1, q.2.2⟩, t.isc, t.fit⟩
  · obtain ⟨x, e1, e2, e3, e4, e5, _⟩ := t.fns g b eb
    exact ⟨x, n + 2, FD g, e1, e2, e3, e4, hr, h1 g b eb, e5⟩
  · obtain ⟨ps, b, f⟩ := h2 k L hk
    exact ⟨n + 2, ps, hr, b, f⟩
/-- a def by its body, where no repr runs around -/
theorem fnG_of {CX : CXT} {P : Program} {w : World} {K : PySem.W.Frag} {mg : Str → Option Value} {base : Heap} {k : Nat} {f : Addr} {name qual : Str} {params : Arguments} {body : List Stmt} {scope : Scope} {dV kV doc pm cdv ct oc : Value} {an od : Option Addr}
    {osl : Array (Option Value)} {N ps : List Str} {sp : Sp} (lk : K.lookup f = some ⟨oc, od, .func (PySem.W.fnOf name qual params body scope dV kV doc pm an cdv ct), osl⟩) (hcd : PySem.W.codeIn K cdv qual = true) (S : FnScope N ps scope) (len : ∀ vs H Q E, sp vs H Q E → vs.length = ps.length)
    (hb : ∀ (A : Around) (outer : List PySem.Env) (s : Shared) (H : Hp) (vs : List V) (Q : VK) (E : XK), Room k (A.deeper (envOfC qual scope s.heap.objs.size f cdv)) → A.guards = some [] → sp vs H Q E →
      ∃ t, PSs (cxOf CX P w K mg base N qual scope f cdv A outer s H E) body t ∧ t { nx := fun _ H' => Q .non H', rt := Q } (L2.start N vs) H) :
    FnG P w K mg base CX (k + 1) f (PySem.W.fnOf name qual params body scope dV kV doc pm an cdv ct) ps sp := by
  refine ⟨len, fun A outer s H args us vs Q E hr hg e0 bd rv z => ?_⟩
  obtain ⟨t, pt, qt⟩ := hb A outer s H vs Q E (hr.deeper _) hg z
  have stays : ∀ b o, base.get? b = some o → s.heap.get? b = some o := fun b o e => (e0.bs b o e).1
  have KX := e0.mod.kin.keeps stays
  refine codeAny_call_function hr.depth (KX _ _ lk) rfl S.co S.gen rfl (PySem.W.codeRec_of KX hcd) (bd _ _ _ _ (wpAny_newFunctionEnv_cells S.kind (fun y hy => ?_) fun env he s1 x => ?_))
  · rcases S.par y.1 (List.of_mem_zip (a := y.1) (b := y.2) hy).1 with q | q
    · exact .inl q
    · exact .inr ⟨q, PySem.W.cellsFrom_some _ _ _ (.inl q)⟩
  · subst he
    refine ⟨(e0.mod.nolimit.keeps stays).keeps x.toInCall.keep, codeAny_func (wpAny_mono (pt.run [] s1 _ H _ (inv_start S hr.hd e0 (len _ _ _ _ z) rv x) qt) (fun fl s' q => ?_) fun e s' q => q)⟩
    match fl, q with
    | .ret u, ⟨v, _, H', J, r, q⟩ => exact ⟨v, H', J.os, J.bare, J.base, J.hok, r, q⟩
    | .next, ⟨_, H', J, q⟩ => exact ⟨V.non, H', J.os, J.bare, J.base, J.hok, rfl, q⟩
    | .brk, ⟨_, _, _, q⟩ => exact False.elim q
    | .cont, ⟨_, _, _, q⟩ => exact False.elim q
section
variable {P : Program} {wd : World} {K : PySem.W.Frag} {mg : Str → Option Value} {base : Heap} {Nm : Names} {FA : Fns} {CA : Nat → Option Addr} {FD : Nat → FuncData} {T : Nat → Option Fd} {Wf : Nat}
theorem evalG {n f : Nat} {F : Fd} (hT : T f = some F) (os : List O) : G T Wf (n + 1) f os = runF ⟨G T Wf n, sigT T⟩ Wf F os := by
  unfold G; rw [hT]; rfl
theorem TopOk.all (t : TopOk P K mg base Nm FA FD T) : ∀ n, (∀ f a, FA f = some a → FnG P wd K mg base (L2.CX P wd) (n + 2) a (FD f) (Nm.pars f) (spG K FA FA.ca (sigT T f) (G T Wf n f))) ∧
    (∀ k L, FA.ml k L → ∃ ps : List Str, (∀ (c : Addr) (pm ctv : Value) (us : List Value), us.length = ps.length → bindArgs (L.fd c pm ctv) ⟨us, []⟩ = pure (ps.zip us)) ∧
      ∀ f c pm ctv, FnG P wd K mg base (L2.CX P wd) (n + 2) f (L.fd c pm ctv) ps (spK K FA FA.ca (sigT T k) (G T Wf n k) f c L pm ctv))
  | 0 => by
    refine ⟨fun f a e => ?_, fun k L hk => ?_⟩
    · obtain ⟨x, e1, e2, e3, e4, e5, nm, qual, params, body, scope, dvs, kws, F, N, hF, hT, S, hs, hm, hsl⟩ := t.fns f a e
      have hsig : sigT T f = F.modes := by unfold sigT; rw [hT]
      exact ⟨fun vs H Q E ⟨F0, os, h1, _⟩ => by rw [h1, hsig, hm], fun A outer s H args us vs Q E hr hg he hb hv ⟨F0, os, h1, h2, h3, h4⟩ => False.elim h4⟩
    · obtain ⟨ps, N, e, hb, hT, hv, S, hi⟩ := t.lam k L hk
      have hsig : sigT T k = List.replicate ps.length false := by unfold sigT; rw [hT]
      exact ⟨ps, hb, fun f c pm ctv => ⟨fun vs H Q E ⟨_, _, F0, os, h1, _⟩ => by rw [h1, hsig, List.length_replicate], fun A outer s H args us vs Q E hr hg he hb hv ⟨_, _, F0, os, h1, h2, h3, h4⟩ => False.elim h4⟩⟩
  | n + 1 => by
    obtain ⟨ihF, ihL⟩ := t.all n
    refine ⟨fun f a e => ?_, fun k L hk => ?_⟩
    · obtain ⟨x, e1, e2, e3, e4, e5, nm, qual, params, body, scope, dvs, kws, F, N, hF, hT, S, hs, hm, hsl⟩ := t.fns f a e
      have hsig : sigT T f = F.modes := by unfold sigT; rw [hT]
      have hle : (Nm.pars f).length ≤ N.length := by
        have := congrArg List.length S.pre
        rw [List.length_take] at this
        omega
      obtain ⟨oc, od, dV, kV, doc, pm, an, cdv, ct, osl, efd, lk, hcd, _, _⟩ := hF.ex
      rw [efd] at lk ⊢
      refine fnG_of lk hcd S (fun vs H Q E ⟨F0, os, h1, _⟩ => by rw [h1, hsig, hm]) fun A outer s H vs Q E hr hg ⟨F0, os, h1, h2, h3, h4⟩ => ?_
      rw [hsig] at h1 h2
      have hos := modeOk_len h2
      let X := cxOf (L2.CX P wd) P wd K mg base N qual scope a cdv A outer s H E
      let W : WX := fun cls d _ H => E cls d H
      have tk : Takes X W := takes_of (X := X) rfl rfl rfl rfl
      have c : Cok { Nm with mks := Nm.mks, lamB := Nm.lamB } FA FA.ca ⟨G T Wf n, sigT T⟩ X W := Cok.mk' (X := X) t Nm.mks Nm.lamB rfl S.nd (by have := hr.un; show (A.deeper _).units + 65 < cLine; omega) tk hr hg ihF ihL
      have St : Stm Nm FA FA.ca ⟨G T Wf n, sigT T⟩ X W ⟨H, topA vs os, F0, []⟩ scope := ⟨c, ⟨⟨fun x h => h, fun x h => ⟨h, rfl⟩, fun x h => .inr h, fun x h => h⟩, fun z => by rw [t.mks] at z; cases z⟩, S.kind, passes_of (X := X) rfl⟩
      rw [evalG hT, hsig] at h4
      obtain ⟨tt, pt, it⟩ := sTop (X := X) (Wf := Wf) (pr := prOf F.modes) (σ0 := L2.start N vs) St ⟨rfl, rfl, rfl⟩ F.body hs
      refine ⟨tt, pt, it _ _ _ ?_ (body_start (CA := FA.ca) h1 hos (by rw [hm]; exact hle) hsl h3 (fun a od σ H' z => z) h4)⟩
      show (L2.start N vs).length = N.length
      unfold L2.start
      simp only [List.length_append, List.length_map, List.length_replicate]
      omega
    · obtain ⟨ps, N, e, hb, hT, hv, S', hi⟩ := t.lam k L hk
      have S := NdefX.nscope_by S'
      have hsig : sigT T k = List.replicate ps.length false := by unfold sigT; rw [hT]
      refine ⟨ps, hb, fun f cc pm ctv => ⟨fun vs H Q E ⟨_, _, F0, os, h1, _⟩ => by rw [h1, hsig, List.length_replicate], fun A outer s H args us vs Q E hr hg e0 hbind r ⟨hf, hcd, F0, os, h1, h2, h3, h4⟩ => ?_⟩⟩
      rw [hsig] at h1 h2
      have hos := modeOk_len h2
      rw [List.length_replicate] at h1 hos
      obtain ⟨⟨od, sl, ho⟩, _, _⟩ := e0.hok f _ hf
      obtain ⟨⟨oc, cvs, tq, c1, c2, c3⟩, _, _⟩ := e0.hok cc _ hcd
      have lim : s.heap.NoLimit := e0.mod.nolimit.keeps fun b o q => (e0.bs b o q).1
      let NF0 : NdefX.NF := ⟨"<lambda>", L.qual, L.params, [], L.scope, [], cc⟩
      let X := NdefX.ncx (L2.CX P wd) P wd K mg base N NF0 f A outer s H E
      let W : WX := fun cls d _ H => E cls d H
      have tk : Takes X W := takes_of (X := X) rfl rfl rfl rfl
      have hr' : Room (n + 2) X.A := hr.deeper _
      have c : Cok { Nm with mks := Nm.mks, lamB := fun _ _ _ _ => false } FA FA.ca ⟨G T Wf n, sigT T⟩ X W := Cok.mk' (X := X) t Nm.mks (fun _ _ _ _ => false) rfl S.nd (by have := hr'.un; omega) tk hr' hg ihF ihL
      have q : ScM { Nm with lamB := fun _ _ _ _ => false } FA X ⟨H, topA vs os, F0, []⟩ L.scope := ⟨⟨fun x h => h, fun x h => absurd rfl (S.nocell _ (PySem.mem_of_lookup h)), fun x h => .inr h, fun x h => h⟩, fun z => by rw [t.mks] at z; cases z⟩
      rw [evalG hT, hsig] at h4
      unfold runF at h4
      rw [if_pos (by show os.length = (List.replicate ps.length false).length; rw [List.length_replicate]; exact hos)] at h4
      refine PySem.W.kla_callFunE hr.depth ho rfl S.co S.gen rfl ⟨cc, oc, cvs, tq, rfl, c1, c2, c3⟩ (hbind _ _ _ _ ?_)
      refine wpAny_newFunctionEnv S.nocell (fun ⟨y, _⟩ hy => S.par y (List.of_mem_zip hy).1) (fun h₁ hns hsb => ⟨lim.fresh _ hsb, ?_⟩) S.kind
      show codeAny _ _ (.expr L.body (NdefX.envF NF0 f s.heap.objs.size)) _ _
      have kp : ∀ b o, s.heap.get? b = some o → h₁.get? b = some o := fun b o q => hsb.extBut b o (Nat.ne_of_lt (Heap.lt_size q)) (Heap.get?_push_of_some _ q)
      have CA0 : NdefX.CellsAt NF0.cl [] [] s.heap H := ⟨rfl, fun y c z => (nomatch z), fun x y c z => (nomatch z), fun i y z => (nomatch z)⟩
      have I : L2.Inv X [] (NdefX.startF N vs []) H { s with heap := h₁, toks := s.toks + (ps.zip us).length } := NdefX.inv_startN S hr.hd e0 h1 r CA0 hns kp
      have hpl : ps.length ≤ N.length := by
        have z := congrArg List.length S.pre
        rw [List.length_take, List.length_append] at z
        have : ([] : List Str).length = 0 := rfl
        omega
      have rd : tE K FA FA.ca W ⟨H, topA vs os, F0, []⟩ ⟨G T Wf n, sigT T⟩ e (NdefX.startF N vs []) H Q := by
        refine ⟨F0, [], os.map some ++ List.replicate (N.length - os.length) none, ?_, ?_, ?_⟩
        · unfold NdefX.startF
          simp only [List.length_append, List.length_map, List.length_replicate, List.length_nil]
          omega
        · rw [List.append_nil]
          unfold NdefX.startF
          rw [lv_start (N := N) (by rw [h1, hos])]
          exact h3
        · revert h4
          show (match finish (List.replicate ps.length false) (evalSs ⟨G T Wf n, sigT T⟩ Wf (.cons (.ret e) .nil) (os.map some ++ List.replicate (N.length - os.length) none)) with
            | .rt o outs => ∀ v H' F', Sub F0 F' → Hs K FA ⟨H, topA vs os, F0, []⟩ F' H' ((some v, o) :: outsOf (List.replicate ps.length false) vs outs) → Q v H'
            | .ex c ds => ∀ H' F' od a, FA.ca c = some a → Sub F0 F' → HR ⟨H, topA vs os, F0, []⟩ F' H' → ExcAt K FA F' H' ds od → E (.ref a) od H'
            | .no => False) → _
          unfold evalSs
          rw [evalS_ret hv]
          have no : ∀ (m : Nat) (env : Env) (i : Nat), outs? env (List.replicate m false) i = some [] := fun m => by
            induction m with
            | zero => intro env i; rfl
            | succ m ih => intro env i; rw [List.replicate_succ]; exact ih env (i + 1)
          have no2 : ∀ (m : Nat) (vs : List V) (us : List O), outsOf (List.replicate m false) vs us = [] := fun m => by
            induction m with
            | zero => intro vs us; cases vs <;> rfl
            | succ m ih => intro vs us; cases vs with
              | nil => rfl
              | cons v vs => rw [List.replicate_succ]; exact ih vs us
          cases evalE ⟨G T Wf n, sigT T⟩ e (os.map some ++ List.replicate (N.length - os.length) none) with
          | no => intro h4; exact h4
          | ex c ds => intro h4; exact h4
          | ok o env1 =>
            intro h4
            have h4 : (match (match outs? env1 (List.replicate ps.length false) 0 with | some outs => CR.rt o outs | none => .no) with
              | .rt o outs => ∀ v H' F', Sub F0 F' → Hs K FA ⟨H, topA vs os, F0, []⟩ F' H' ((some v, o) :: outsOf (List.replicate ps.length false) vs outs) → Q v H'
              | .ex c ds => ∀ H' F' od a, FA.ca c = some a → Sub F0 F' → HR ⟨H, topA vs os, F0, []⟩ F' H' → ExcAt K FA F' H' ds od → E (.ref a) od H'
              | .no => False) := h4
            rw [no] at h4
            intro v H' F' hl s1 sF _
            refine h4 v H' F' sF ?_
            rw [no2]
            exact s1.toTemp.dropL
      refine PySem.W.kla_codeExpr (wpAny_mono (((sE (X := X) (W := W) (w := ⟨H, topA vs os, F0, []⟩) e c q hi).1).run [] _ _ H Q I rd) (fun v s' hq => ?_) fun e s' hq => hq)
      obtain ⟨w', H', J', rv, q⟩ := hq
      exact ⟨w', H', J'.os, J'.bare, J'.base, J'.hok, rv, q⟩
end
end RF
/-! RFv: the end of a law whose defs ask that no repr runs around; what lies beside the module. -/
namespace RF
open L2 PySem PySem.Spec PyProof.Rows LamX
/-- nothing opaque is loaded -/
def StatAt (h : Heap) : Prop := ∃ K1 : PySem.W.Frag, K1.In h ∧ PySem.W.nsIn K1 cStatics "thirdparty.any" = some none ∧ ∀ b o, K1.lookup b = some o → b = cStatics ∧ ∃ es ep, o.data = .dict es ep
def statB (g : Addr → Option Obj) : Bool := match g cStatics with
  | some ⟨c, d, .dict es ep, sl⟩ => decide (PySem.W.nsIn [(cStatics, ⟨c, d, .dict es ep, sl⟩)] cStatics "thirdparty.any" = some none)
  | _ => false
theorem stat_of {h : Heap} (e : statB h.get? = true) : StatAt h := by
  unfold statB at e
  split at e
  · rename_i c d es ep sl hg
    have one : ∀ b o, ([(cStatics, (⟨c, d, .dict es ep, sl⟩ : Obj))] : PySem.W.Frag).lookup b = some o → b = cStatics ∧ o = ⟨c, d, .dict es ep, sl⟩ := fun b o q => by
      unfold List.lookup at q
      split at q
      · rename_i hb
        cases q
        exact ⟨by simpa using hb, rfl⟩
      · cases q
    exact ⟨_, fun b o q => by obtain ⟨rfl, rfl⟩ := one b o q; exact hg, of_decide_eq_true e, fun b o q => by obtain ⟨rfl, rfl⟩ := one b o q; exact ⟨rfl, es, ep, rfl⟩⟩
  · cases e
def obY (n : Nat) (fa : List He.Fa) (fn : List He.DefD) (ts : List He.Tab) (tf : List He.Defn) (ex : PySem.W.Frag → Bool) (g : Addr → Option Obj) : He.AlX × Bool := (He.obsX n fa fn ts tf ex g, statB g)
def hookY (n : Nat) (fa : List He.Fa) (fn : List He.DefD) (ts : List He.Tab) (tf : List He.Defn) (ex : PySem.W.Frag → Bool) : PySem.W.Hook where
  α := He.AlX × Bool
  obs := fun s => obY n fa fn ts tf ex s.heap.get?
  val := fun w => (He.valX fn ts w, true)
  says := fun w h => (∃ K : PySem.W.Frag, K.In h ∧ He.SaysX fa fn ts tf ex w h K) ∧ StatAt h
  of := fun w s e => ⟨(He.hookX n fa fn ts tf ex).of w s (congrArg Prod.fst e), stat_of (congrArg Prod.snd e)⟩
  keeps := fun w h h' ⟨x, K1, i, q⟩ k => ⟨(He.hookX n fa fn ts tf ex).keeps w h h' x k, K1, i.keeps k, q⟩
theorem obY_eq {n : Nat} {fa : List He.Fa} {fn : List He.DefD} {ts : List He.Tab} {tf : List He.Defn} {ex : PySem.W.Frag → Bool} {g : Addr → Option Obj} {s : Shared} (h : ∀ a, g a = s.heap.get? a) : obY n fa fn ts tf ex g = (hookY n fa fn ts tf ex).obs s := by
  obtain rfl : g = s.heap.get? := funext h
  rfl
section
variable {P : Program} {w : World} {K : PySem.W.Frag} {mg mb : Str → Option Value} {k : Nat} {fa a c T : Addr} {fd : FuncData} {x : Str} {sp : Sp} {s₁ : Shared} {vs : List Value} {ns : List Int}
/-- the law called, from an abstract heap that tracks the script (or not) and the table -/
theorem callG (H : Hp) (hH : H T = some (.tbl #[])) (hA : ∀ b, H b ≠ none → (b = a ∧ K.lookup a = none) ∨ b = T) (hO : ∀ b u, H b = some u → b = T ∨ ∃ o xs, u = .frz o (.lst xs)) (hS : SqL K H a (ns.map V.int)) (hok : HOk P w H s₁.heap)
    (KX : K.In s₁.heap) (hns : s₁.heap.Ns mainGlobals mg) (hb : s₁.heap.Ns builtinsNs mb) (hbb : ∀ x : Str, x ≠ "__name__" → mb x = bootBuiltins x) (hlim : s₁.heap.NoLimit) (hg : s₁.gens = #[])
    (hT : s₁.heap.get? T = some { cls := .none, data := .fields #[] }) (nT : K.lookup T = none) (C : PySem.W.CodeHd s₁.heap c T)
    (hbm : ∃ (bm : Addr) (ob : Obj), mg "__builtins__" = some (.ref bm) ∧ bm ≠ builtinsNs ∧ s₁.heap.get? bm = some ob ∧ ob.cls = .type "module" ∧ ob.dict = some builtinsNs ∧ ob.data = .plain)
    (ha : s₁.heap.get? a = some { cls := .type "list", data := .seq vs.toArray }) (hr : Room k callerA) (hst : StatAt s₁.heap)
    (F : ∀ base : Heap, K.In base → base.Ns mainGlobals mg → TabB base mg c T → (∃ K1 : PySem.W.Frag, K1.In base ∧ PySem.W.nsIn K1 cStatics "thirdparty.any" = some none) → FnG P w K mg base (L2.CX P w) k fa fd [x] sp)
    (hbind : ∀ (s : Shared) (u : Value), BindsTo s fd ⟨[u], []⟩ [(x, u)]) (hsp : sp [.ref a] H (fun v _ => v = .bl true) fun _ _ _ => False)
    (hCX : ∀ e s', L2.CX P w [] H s₁ (fun _ _ _ => False) e s' → False) :
    codeAny (model P w) callerA (.call (.ref fa) ⟨[.ref a], []⟩) (fun r s' => r = .ok (.ret (.bool true)) ∧ OldK s₁.heap s'.heap ∧ s'.os = s₁.os ∧ AllBare s'.gens) s₁ := by
  have inB : ∀ {b : Addr} {o : Obj}, s₁.heap.get? b = some o → (∀ xs n, o.data ≠ .seq xs n) → (∀ xs, o.data = .fields xs → 18 < xs.size) → (hidT s₁.heap H).get? b = some o := fun {b o} e n1 n2 => by
    refine hidT_get e ?_
    cases q : H b with
    | none => rfl
    | some u =>
      exfalso
      rcases hA b (by rw [q]; exact fun z => nomatch z) with ⟨rfl, _⟩ | rfl
      · rw [ha] at e; cases e; exact n1 _ _ rfl
      · rw [hT] at e; cases e; exact absurd (n2 _ rfl) (by simp)
  have dictB : ∀ {b : Addr} {o : Obj} {es : Array DictEntry} {ep : Nat}, s₁.heap.get? b = some o → o.data = .dict es ep → (hidT s₁.heap H).get? b = some o := fun e d => inB e (fun _ _ z => by rw [d] at z; cases z) (fun _ z => by rw [d] at z; cases z)
  have nsB : ∀ {b : Addr} {m : Str → Option Value}, s₁.heap.Ns b m → (hidT s₁.heap H).Ns b m := fun ⟨o, es, ep, e, d, r⟩ => ⟨o, es, ep, dictB e d, d, r⟩
  have KB : K.In (hidT s₁.heap H) := fun b o e => hidT_get (KX b o e) (by
    cases q : H b with
    | none => rfl
    | some u =>
      exfalso
      rcases hA b (by rw [q]; exact fun z => nomatch z) with ⟨rfl, z⟩ | rfl
      · rw [z] at e; cases e
      · rw [nT] at e; cases e)
  obtain ⟨mc, l1, l2⟩ := hlim
  have md : L2.Mod K mg (hidT s₁.heap H) := ⟨KB, nsB hns, ⟨mb, nsB hb, hbb⟩, mc, nsB l1, l2⟩
  have tb : TabB (hidT s₁.heap H) mg c T := by
    refine ⟨?_, ?_, fun z => ?_⟩
    · obtain ⟨o, us, file, tf, flags, tg, inF, text, tt, q1, q2, q3, q4, q5, q6, rest⟩ := C
      have big : 18 < us.size := by
        by_cases z : 18 < us.size
        · exact z
        · exfalso
          rw [Array.getD_eq_getD_getElem?, Array.getElem?_eq_none (by omega)] at q6
          cases q6
      exact ⟨o, us, file, tf, flags, tg, inF, text, tt, inB q1 (fun _ _ z => by rw [q3] at z; cases z) (fun xs z => by rw [q3] at z; cases z; exact big), q2, q3, q4, q5, q6, rest⟩
    · obtain ⟨bm, ob, b1, b2, b3, b4, b5, b6⟩ := hbm
      refine ⟨bm, ob, b1, b2, fun z => ?_, fun z => ?_, inB b3 (fun _ _ z => by rw [b6] at z; cases z) (fun _ z => by rw [b6] at z; cases z), b4, b5, b6⟩
      · obtain ⟨o, es, ep, e, d, _⟩ := hns
        rw [z, e] at b3
        cases b3
        rw [d] at b6; cases b6
      · rw [z, hT] at b3
        cases b3; cases b6
    · obtain ⟨o, es, ep, e, d, _⟩ := hns
      rw [z, hT] at e
      cases e; cases d
  obtain ⟨K1, k1, k2, k3⟩ := hst
  have st : ∃ K1 : PySem.W.Frag, K1.In (hidT s₁.heap H) ∧ PySem.W.nsIn K1 cStatics "thirdparty.any" = some none := ⟨K1, fun b o q => by
    obtain ⟨_, es, ep, d⟩ := k3 b o q
    exact dictB (k1 b o q) d, k2⟩
  have e0 : Env0 P w K mg (hidT s₁.heap H) callerA [] s₁ H := ⟨rfl, md, fun b o e => of_hidT e, Nat.le_of_eq (hidT_size _ _), trivial, fun b m => (nomatch m), hok, .of_eq hg⟩
  refine codeAny_mono ((F _ KB (nsB hns) tb st).run callerA [] s₁ H ⟨[.ref a], []⟩ [.ref a] [.ref a] _ _ hr rfl e0 (hbind s₁ (.ref a)) (.cons rfl .nil) hsp) fun r s' h => ?_
  match r, h with
  | .error e, h => exact (hCX e s' h).elim
  | .ok .next, h => exact False.elim h
  | .ok .brk, h => exact False.elim h
  | .ok .cont, h => exact False.elim h
  | .ok (.ret u), ⟨v, H', os, bare, un, hok', rv, q⟩ =>
    obtain rfl : v = .bl true := q
    obtain rfl : u = Value.bool true := rv
    have kp : ∀ b o, b ≠ T → s₁.heap.get? b = some o → s'.heap.get? b = some o := fun b o nb e => by
      cases z : H b with
      | none => exact un.keep b o e z (fun m => nomatch m) (fun m => nomatch m)
      | some u =>
        rcases hO b u z with z2 | ⟨ob, xs, rfl⟩
        · exact absurd z2 nb
        · have y1 := (hok b _ z).1
          have y2 := (hok' b _ (un.frzs b ob _ z)).1
          rw [e] at y1; cases y1
          exact y2
    obtain ⟨more, hm⟩ := un.tbls T #[] hH
    have gr : s'.heap.get? T = some { cls := .none, data := .fields (#[] ++ more) } := hok' T _ hm
    refine ⟨rfl, ⟨fun b o e => ?_, fun b o e => ?_⟩, os, bare⟩
    · by_cases z : b = T
      · subst z
        rw [hT] at e
        cases e
        exact .inr (.inl ⟨(C.tab hT).isCodeTable, rfl, #[], more, rfl, gr⟩)
      · exact .inl (kp b o z e)
    · by_cases z : b = T
      · rw [z]; exact ⟨_, gr⟩
      · exact ⟨o, kp b o z e⟩
/-- what is known of the law's promise -/
def LawG (P : Program) (w : World) (K : PySem.W.Frag) (k n : Nat) (x : Str) (mg : Str → Option Value) (fa c T : Addr) : Prop :=
  ∃ (fd : FuncData) (sp : Sp), (∀ (s : Shared) (u : Value), BindsTo s fd ⟨[u], []⟩ [(x, u)]) ∧
    (∀ (H : Hp) (a : Addr) (ns : List Int), ns.length ≤ n → (∀ z ∈ ns, Builtin.Int.intBits z ≤ 1048576) → H T = some (.tbl #[]) → SqL K H a (ns.map V.int) → sp [.ref a] H (fun v _ => v = .bl true) fun _ _ _ => False) ∧
    ∀ base : Heap, K.In base → base.Ns mainGlobals mg → TabB base mg c T → (∃ K1 : PySem.W.Frag, K1.In base ∧ PySem.W.nsIn K1 cStatics "thirdparty.any" = some none) → FnG P w K mg base (L2.CX P w) k fa fd [x] sp
theorem noCX0 {H : Hp} {s : Shared} {e : Value} {s' : Shared} (h : L2.CX P w [] H s (fun _ _ _ => False) e s') : False := by
  obtain ⟨_, _, _, _, _, _, _, _, _, _, _, _, z⟩ := h
  exact z
theorem walkG {l : PySem.W.OpenLaw} {n k : Nat} {q : Program} {loose : List Str} {XP : (Str → Option Value) → Heap → Prop} {YP : World → Heap → Prop} {d : DefRec} {x : Str} (hn : l.most = some n) (hn2 : n ≤ sizeLine) (hdf : d.params.defaults = []) (hr : Room k callerA)
    (F : ∀ (w : World) (mg : Str → Option Value) (fa : Addr) (h : Heap), YP w h → h.Ns mainGlobals mg → mg d.name = some (.ref fa) → ∃ (K : PySem.W.Frag) (c T : Addr), K.In h ∧ StatAt h ∧ h.get? T = some { cls := .none, data := .fields #[] } ∧ K.lookup T = none ∧ PySem.W.CodeHd h c T ∧ LawG l.prog w K k n x mg fa c T) :
    PySem.W.WalkO q loose XP YP l.row.toRowW d [] (fun f vs => PySem.call f vs) := by
  refine Att.attach_callB hn hdf fun w s₀ s₁ mg mb fa o pm cd doc a vs ns G Y ho hd hcd hmg hobj hints hlen hbits hg => ?_
  obtain ⟨K, c, T, KX, hst, hT, nT, C, fd, sp, hb, hsp, hF⟩ := F w mg fa _ Y G.T.g hmg
  have nTa : T ≠ a := fun z => by
    rw [z, hobj] at hT
    cases hT
  cases hk : K.lookup a with
  | some o2 =>
    have e := KX a o2 hk
    rw [hobj] at e
    cases e
    have hS : SqL K (fun b => if b = T then some (HO.tbl #[]) else none) a (ns.map V.int) := .inr ⟨_, vs.toArray, _, hk, rfl, rfl, rfl, by rw [List.size_toArray, hints.length]; exact Nat.le_trans hlen hn2, by simpa using vals_ints hints⟩
    refine callG (fun b => if b = T then some (.tbl #[]) else none) (if_pos rfl) (fun b z => ?_) (fun b u z => ?_) hS (fun b u z => ?_) KX G.T.g G.T.b G.T.builtins G.T.nolimit hg hT nT C G.T.bmain hobj hr hst hF hb (hsp _ a ns hlen hbits (if_pos rfl) hS) fun e s' z => noCX0 z
    · by_cases y : b = T
      · exact .inr y
      · exact absurd (if_neg y) z
    · by_cases y : b = T
      · exact .inl y
      · have z' := (if_neg y).symm.trans z
        cases z'
    · by_cases y : b = T
      · have z' := (if_pos y).symm.trans z
        cases z'
        rw [y]; exact hT
      · have z' := (if_neg y).symm.trans z
        cases z'
  | none =>
    have hS : SqL K (fun b => if b = a then some (.frz { cls := .type "list", data := .seq vs.toArray } (.lst (ns.map V.int))) else if b = T then some (HO.tbl #[]) else none) a (ns.map V.int) := .inl (.inr ⟨{ cls := .type "list", data := .seq vs.toArray }, if_pos rfl⟩)
    have hT2 : (fun b => if b = a then some (HO.frz { cls := .type "list", data := .seq vs.toArray } (.lst (ns.map V.int))) else if b = T then some (HO.tbl #[]) else none) T = some (.tbl #[]) := (if_neg nTa).trans (if_pos rfl)
    refine callG (fun b => if b = a then some (.frz { cls := .type "list", data := .seq vs.toArray } (.lst (ns.map V.int))) else if b = T then some (.tbl #[]) else none) hT2 (fun b z => ?_) (fun b u z => ?_) hS (fun b u z => ?_) KX G.T.g G.T.b G.T.builtins G.T.nolimit hg hT nT C G.T.bmain hobj hr hst hF hb (hsp _ a ns hlen hbits hT2 hS) fun e s' z => noCX0 z
    · by_cases y1 : b = a
      · exact .inl ⟨y1, hk⟩
      · by_cases y : b = T
        · exact .inr y
        · exact absurd ((if_neg y1).trans (if_neg y)) z
    · by_cases y1 : b = a
      · have z' := (if_pos y1).symm.trans z
        cases z'
        exact .inr ⟨_, _, rfl⟩
      · by_cases y : b = T
        · exact .inl y
        · have z' := (if_neg y1).symm.trans z
          rw [if_neg y] at z'; cases z'
    · by_cases y1 : b = a
      · have z' := (if_pos y1).symm.trans z
        cases z'
        rw [y1]
        exact ⟨hobj, by rw [List.length_map]; exact Nat.le_trans hlen hn2, vs, _, vals_ints hints, hobj⟩
      · by_cases y : b = T
        · have z' := (if_neg y1).symm.trans z
          rw [if_pos y] at z'
          cases z'
          rw [y]; exact hT
        · have z' := (if_neg y1).symm.trans z
          rw [if_neg y] at z'; cases z'
end
end RF
/-! RFt: the law as a def; the facts of a top; the end. -/
namespace RF
open L2 PySem PySem.Spec PyProof.Rows
/-! ### the law -/
def spLaw (K : PySem.W.Frag) (P : Addr) (r : List O → CR) : Sp := fun vs H Q E =>
  ∃ (a : Addr) (ns : List Int), vs = [.ref a] ∧ SqL K H a (ns.map V.int) ∧ H P = some (.tbl #[]) ∧ r [.z (.scr ns)] = .rt (.z (.bl true)) [] ∧ ∀ H', Q (.bl true) H'
/-- all but the tables -/
def offT (H : Hp) : Hp := fun b => match H b with
  | some (.tbl _) => none
  | x => x
theorem offT_some {H : Hp} {b : Addr} {o : HO} (h : offT H b = some o) : H b = some o ∧ ∀ ps, o ≠ .tbl ps := by
  unfold offT at h
  cases e : H b with
  | none => rw [e] at h; cases h
  | some x =>
    rw [e] at h
    cases x <;> first | (cases h; exact ⟨rfl, fun ps z => by cases z⟩) | cases h
theorem offT_of {H : Hp} {b : Addr} {o : HO} (h : H b = some o) (n : ∀ ps, o ≠ .tbl ps) : offT H b = some o := by
  unfold offT
  rw [h]
  cases o <;> first | rfl | exact absurd rfl (n _)
def qualL (qual : Str) (scope : Scope) (a c : Addr) : Str := (envOfC qual scope 0 a (.ref c)).qual ++ "<lambda>"
section
variable {Pr : Program} {wd : World} {K : PySem.W.Frag} {mg : Str → Option Value} {base : Heap} {Nm : Names} {FA : Fns} {CA : Nat → Option Addr} {FD : Nat → FuncData} {T : Nat → Option Fd} {Wf : Nat}
theorem TopOk.law (t : TopOk Pr K mg base Nm FA FD T) {a c P : Addr} {fd : FuncData} {nm qual : Str} {params : Arguments} {body : List Stmt} {scope : Scope} {dvs : List V} {kws : List (Str × V)} {F : Fd} {N : List Str} {n : Nat}
    (hF : FunD K nm qual params body scope dvs kws a fd) (S : FnScope N ["script"] scope) (hs : isTop { Nm with mks := true } N [] scope F.body body = true) (hm : F.modes = [false]) (hsl : F.slots = N.length)
    (hcode : ∀ o fd', K.lookup a = some o → o.data = .func fd' → fd'.code = .ref c) (tb : LamX.TabB base mg c P)
    (hml : ∀ k params scope' body, Nm.lamB k params scope' body = true → FA.ml k ⟨qualL qual scope a c, params, body, scope'⟩ ∧ (∀ y ∈ scope'.names, y.2 ≠ .free) ∧ ∀ env, defaultsOf params env = ([], [])) :
    FnG Pr wd K mg base (L2.CX Pr wd) (n + 3) a fd ["script"] (spLaw K P (runF ⟨G T Wf n, sigT T⟩ Wf F)) := by
  obtain ⟨ihF, ihL⟩ := TopOk.all (P := Pr) (wd := wd) (base := base) (Wf := Wf) t n
  obtain ⟨oc, od, dV, kV, doc, pm, an, cdv, ct, osl, rfl, lk, hcd, _, _⟩ := hF.ex
  have ec : cdv = .ref c := hcode _ _ lk rfl
  subst ec
  have hle : 1 ≤ N.length := by
    have := congrArg List.length S.pre
    rw [List.length_take] at this
    simp at this
    omega
  refine fnG_of lk hcd S (fun vs H Q E ⟨_, _, h, _⟩ => by rw [h]; rfl) fun A outer s H vs Q E hr hg ⟨a', ns, h0, hS, hP, hres, hq⟩ => ?_
  subst h0
  let X := cxOf (L2.CX Pr wd) Pr wd K mg base N qual scope a (.ref c) A outer s H E
  let W : WX := fun cls d _ H => E cls d H
  let w0 : W0 := ⟨H, [P], offT H, [(P, qualL qual scope a c)]⟩
  have tk : Takes X W := takes_of (X := X) rfl rfl rfl rfl
  have ck : Cok { Nm with mks := true } FA FA.ca ⟨G T Wf n, sigT T⟩ X W := Cok.mk' (X := X) t true Nm.lamB rfl S.nd (by have := hr.un; show (A.deeper _).units + 65 < cLine; omega) tk hr hg ihF ihL
  have mk : MkOk { Nm with mks := true } FA X w0 := ⟨⟨c, P, rfl, tb, List.mem_singleton.mpr rfl, fun p hp _ => by rw [List.mem_singleton.mp hp]; rfl, List.mem_singleton.mpr rfl⟩, fun k ps sc' b h => hml k ps sc' b h⟩
  have St : Stm { Nm with mks := true } FA FA.ca ⟨G T Wf n, sigT T⟩ X W w0 scope := ⟨ck, ⟨⟨fun x h => h, fun x h => ⟨h, rfl⟩, fun x h => .inr h, fun x h => h⟩, fun _ => mk⟩, S.kind, passes_of (X := X) rfl⟩
  have hpr : prOf F.modes = [] := by rw [hm]; rfl
  have hw : HR w0 (offT H) H := by
    refine ⟨fun b o e => (offT_some e).1, Sub.refl _, fun b o e => .inl e, fun b o e _ => e, fun b e => e, fun b xs e => offT_of e (fun ps z => by cases z), fun p hp => ?_, fun b ps e => (offT_some e).2 ps rfl⟩
    rw [List.mem_singleton.mp hp]
    exact LamX.TabS.nil hP
  have hrep : Rep K FA (offT H) (.ref a') (.scr ns) := by
    refine .scr ?_
    rcases hS with (h | ⟨o, h⟩) | h
    · exact .inl (.inl (offT_of h fun ps z => by cases z))
    · exact .inl (.inr ⟨o, offT_of h fun ps z => by cases z⟩)
    · exact .inr h
  have hstart : Hs K FA w0 (offT H) H (([V.ref a'].map some).zip [O.z (.scr ns)]) := ⟨hw, [], RepL.cons (A := []) (.z hrep) .nil, List.nodup_nil, fun b m => (nomatch m)⟩
  obtain ⟨tt, pt, it⟩ := sTop (X := X) (Wf := Wf) (pr := prOf F.modes) (σ0 := L2.start N [.ref a']) St ⟨rfl, rfl, rfl⟩ F.body (by rw [hpr]; exact hs)
  refine ⟨tt, pt, it _ _ _ ?_ (body_start (CA := FA.ca) (os := [.z (.scr ns)]) (by rw [hm]; rfl) (by rw [hm]; rfl) (by rw [hm]; exact hle) hsl hstart (fun a od σ H' z => z) ?_)⟩
  · show (L2.start N [V.ref a']).length = N.length
    unfold L2.start
    simp only [List.length_append, List.length_map, List.length_replicate, List.length_cons, List.length_nil]
    omega
  rw [hres]
  intro v H' F' sF s1
  have ev := RepV.bl (X := X) (.rep s1.rep : RepV X.K FA F' H' v _)
  subst ev
  exact hq H'
end
/-! ### the facts of a top -/
structure DD where
  x : Str
  i : Nat
  ps : List Str
  N : List Str
  F : Fd
def DD.st (body : List Stmt) (e : DD) : Stmt := body.getD e.i (.Pass ⟨0, 0, 0, 0⟩)
def DD.d (body : List Stmt) (e : DD) : He.DefD := ⟨(e.x, none), e.x, e.x, defArgs (e.st body), defBody (e.st body), defScope (e.st body), [], []⟩
def scB (N ps : List Str) (sc : Scope) : Bool :=
  decide (sc.kind = .function) && !sc.isCoroutine && !sc.isGenerator && decide N.Nodup && decide (N.take ps.length = ps) && ps.all (fun x => decide (sc.names.lookup x = some .local) || decide (sc.names.lookup x = some .cell)) && sc.names.all (fun y => !decide (y.2 = .free))
theorem scB_ok {N ps : List Str} {sc : Scope} (h : scB N ps sc = true) : FnScope N ps sc := by
  unfold scB at h
  simp only [Bool.and_eq_true, Bool.not_eq_true', decide_eq_true_eq, List.all_eq_true, Bool.or_eq_true, decide_eq_false_iff_not] at h
  obtain ⟨⟨⟨⟨⟨⟨h1, h2⟩, h3⟩, h4⟩, h5⟩, h6⟩, h7⟩ := h
  exact ⟨h1, h2, h3, h4, h5, h6, h7⟩
def DD.okB (Nm : Names) (body : List Stmt) (e : DD) : Bool :=
  scB e.N e.ps (defScope (e.st body)) && isTop Nm e.N (prOf e.F.modes) (defScope (e.st body)) e.F.body (defBody (e.st body)) && decide (e.F.modes.length = e.ps.length) && decide (e.F.slots = e.N.length)
/-- the names by a list of defs -/
def namesOf (ds : List DD) (kw : List (Nat × Nat × List Str × List Nat)) (ks : List (Str × Int)) (cls : List Str) (fit : Option Str) (lamB : Nat → Arguments → Scope → Expr → Bool) : Names :=
  ⟨kw, fun f => (ds[f]?).map (·.x), fun j => ks[j]?, fun f => ((ds[f]?).map (·.ps)).getD [], false, lamB, fun c => cls[c]?, fit⟩
def fnsOf (K : PySem.W.Frag) (ds : List DD) (cls : List Str) (lamB : Nat → Arguments → Scope → Expr → Bool) : Fns := ⟨fun f => (ds[f]?).map fun e => He.ga K e.x, fun k L => lamB k L.params L.scope L.body = true, fun c => (cls[c]?).map (He.ga K)⟩
/-- the error classes -/
def excB (K : PySem.W.Frag) (D : Addr) : Bool :=
  decide (PySem.W.findIn K (.ref D) "__getattribute__" = some (some (.builtin "BaseException.__getattribute__"))) && decide (PySem.W.findIn K (.ref D) "__getattr__" = some none) && decide (PySem.W.subIn K (.ref D) (.type "BaseException") = some true) && PySem.W.hasDictIn K D &&
  decide (PySem.W.findIn K (.ref D) "__class__" = some (some (.builtin "object.__class__"))) && decide (PySem.W.specialIn K (.builtin "object.__class__") "__get__" = some (some (.builtin "getset_descriptor.__get__"))) && decide (PySem.W.takesIn K (.builtin "object.__class__") = some true) && decide (PySem.W.mroIn K D (.type "object") = some true)
theorem excB_ok {K : PySem.W.Frag} {D : Addr} (h : excB K D = true) : ExcC K D := by
  unfold excB at h
  simp only [Bool.and_eq_true, decide_eq_true_eq] at h
  obtain ⟨⟨⟨⟨⟨⟨⟨h1, h2⟩, h3⟩, h4⟩, h5⟩, h6⟩, h7⟩, h8⟩ := h
  exact ⟨h1, h2, h3, h4, h5, h6, h7, h8⟩
def clsOkB (prog : Program) (cls : List Str) (fit : Option Str) (K : PySem.W.Frag) : Bool :=
  cls.all (fun x => RX.iniB prog K (He.ga K x) && xfB K (He.ga K x) && excB K (He.ga K x)) &&
  ((List.range cls.length).all fun i => (List.range cls.length).all fun j => decide (PySem.W.kitOne K (.ref (He.ga K (cls.getD i ""))) (.ref (He.ga K (cls.getD j ""))) = some (i == j))) &&
  (match fit with
  | none => true
  | some y => cls.all fun x => decide (PySem.W.exmOne K (.ref (He.ga K x)) (.ref (He.ga K y)) = some true))
/-- how a def binds -/
def BindOk (K : PySem.W.Frag) (kw : List (Nat × Nat × List Str × List Nat)) (f : Nat) (e : DD) (fd : FuncData) : Prop :=
  Binds K fd e.ps [] ∧ ∀ n ks perm, (f, n, ks, perm) ∈ kw → ∀ (s : Shared) (us ws : List Value), K.In s.heap → us.length = n → ws.length = ks.length → BindsTo s fd ⟨us, ks.zip ws⟩ (e.ps.zip (permL .none us ws perm))
def LamOk (Nm : Names) (T : Nat → Option Fd) (lamB : Nat → Arguments → Scope → Expr → Bool) : Prop := ∀ (k : Nat) (L : LamD), lamB k L.params L.scope L.body = true → ∃ (ps N : List Str) (e : X), (∀ (c : Addr) (pm ctv : Value) (us : List Value), us.length = ps.length → bindArgs (L.fd c pm ctv) ⟨us, []⟩ = pure (ps.zip us)) ∧
    T k = some ⟨List.replicate ps.length false, N.length, .cons (.ret e) .nil⟩ ∧ (∀ i, e ≠ .v i) ∧ NdefX.nscB N ps [] L.scope = true ∧ isE { Nm with lamB := fun _ _ _ _ => false } N e L.scope L.body = true
section
variable {P : Program} {base : Heap} {K : PySem.W.Frag} {h : Heap} {mg : Str → Option Value} {body : List Stmt} {ds : List DD} {kw : List (Nat × Nat × List Str × List Nat)} {ks : List (Str × Int)} {cls : List Str} {fit : Option Str} {lamB : Nat → Arguments → Scope → Expr → Bool} {T : Nat → Option Fd} {fa : List He.Fa} {fn : List He.DefD}
theorem getD_of {cls : List Str} {i : Nat} {x : Str} (h : cls[i]? = some x) : cls.getD i "" = x ∧ i < cls.length := ⟨by simp [List.getD, h], (List.getElem?_eq_some_iff.mp h).1⟩
theorem top_of (KX : K.In h) (G : h.Ns mainGlobals mg) (c : He.SaysD fa fn K) (hfn : ∀ e ∈ ds, e.d body ∈ fn) (hfa : ∀ e ∈ ds, He.Fa.glo e.x ∈ fa) (hblt : ∀ x ∈ bltNames, He.Fa.free x ∈ fa) (hks : ∀ q ∈ ks, He.Fa.int q.1 q.2 ∈ fa)
    (hcl : ∀ x ∈ cls, He.Fa.glo x ∈ fa) (hfit : ∀ x, fit = some x → He.Fa.glo x ∈ fa) (hcB : clsOkB P cls fit K = true) (hsup : (P.main.scope.names.lookup ("super" : Str)).isSome = false) (hst : ∃ K1 : PySem.W.Frag, K1.In base ∧ PySem.W.nsIn K1 cStatics "thirdparty.any" = some none)
    (hok : ds.all (DD.okB (namesOf ds kw ks cls fit lamB) body) = true) (hT : ∀ (f : Nat) (e : DD), ds[f]? = some e → T f = some e.F) (hb : ∀ (f : Nat) (e : DD) (fd : FuncData), ds[f]? = some e → FunD K e.x e.x (defArgs (e.st body)) (defBody (e.st body)) (defScope (e.st body)) [] [] (He.ga K e.x) fd → BindOk K kw f e fd)
    (hl : LamOk (namesOf ds kw ks cls fit lamB) T lamB) (d0 : FuncData) : ∃ FD, TopOk P K mg base (namesOf ds kw ks cls fit lamB) (fnsOf K ds cls lamB) FD T := by
  have step : ∀ f : Nat, ∃ fd : FuncData, ∀ e : DD, ds[f]? = some e → FunD K e.x e.x (defArgs (e.st body)) (defBody (e.st body)) (defScope (e.st body)) [] [] (He.ga K e.x) fd := fun f => by
    cases q : ds[f]? with
    | none => exact ⟨d0, fun e z => by cases z⟩
    | some e =>
      obtain ⟨fd, hF⟩ := c.defs (hfn e (List.mem_of_getElem? q))
      exact ⟨fd, fun e' z => by cases z; exact hF⟩
  obtain ⟨FD, hFD⟩ := Classical.skolem.mp step
  unfold clsOkB at hcB
  obtain ⟨hcB, hcF⟩ := ands hcB
  obtain ⟨hc1, hc2⟩ := ands hcB
  have free : ∀ x ∈ bltNames, mg x = none := fun x hx => He.free_ok KX G (c.facts (hblt x hx))
  have caI : ∀ {k : Nat} {a : Addr}, (fnsOf K ds cls lamB).ca k = some a → ∃ x, cls[k]? = some x ∧ a = He.ga K x := fun {k a} e => by
    have e : (cls[k]?).map (He.ga K) = some a := e
    cases q : cls[k]? with
    | none => rw [q] at e; cases e
    | some x => rw [q] at e; exact ⟨x, rfl, (Option.some.inj e).symm⟩
  refine ⟨FD, rfl, fun f a ea => ?_, hl, fun f x ex => ?_, fun j x i ej => ?_, free, fun k x ex => ?_, fun k a ea => ?_, fun k a j b ea eb => ?_, fun x ex => ?_⟩
  · have ea : (ds[f]?).map (fun e => He.ga K e.x) = some a := ea
    cases q : ds[f]? with
    | none => rw [q] at ea; cases ea
    | some e =>
      rw [q] at ea
      obtain rfl : He.ga K e.x = a := Option.some.inj ea
      have hF := hFD f e q
      have b := hb f e _ q hF
      have hm := List.all_eq_true.mp hok e (List.mem_of_getElem? q)
      unfold DD.okB at hm
      simp only [Bool.and_eq_true, decide_eq_true_eq] at hm
      obtain ⟨⟨⟨m1, m2⟩, m3⟩, m4⟩ := hm
      have ep : (namesOf ds kw ks cls fit lamB).pars f = e.ps := by show ((ds[f]?).map (·.ps)).getD [] = _; rw [q]; rfl
      rw [ep]
      exact ⟨e.x, by show (ds[f]?).map (·.x) = _; rw [q]; rfl, He.glo_ok KX G (c.facts (hfa e (List.mem_of_getElem? q))), hF.kp, b.1, b.2, _, _, _, _, _, _, _, e.F, e.N, hF, hT f e q, scB_ok m1, m2, m3, m4⟩
  · have ex : (ds[f]?).map (·.x) = some x := ex
    cases q : ds[f]? with
    | none => rw [q] at ex; cases ex
    | some e => exact ⟨He.ga K e.x, by show (ds[f]?).map _ = _; rw [q]; rfl⟩
  · have ej : ks[j]? = some (x, i) := ej
    exact He.int_ok KX G (c.facts (hks _ (List.mem_of_getElem? ej)))
  · have ex : cls[k]? = some x := ex
    exact ⟨He.ga K x, by show (cls[k]?).map (He.ga K) = _; rw [ex]; rfl, He.glo_ok KX G (c.facts (hcl _ (List.mem_of_getElem? ex)))⟩
  · obtain ⟨x, ex, rfl⟩ := caI ea
    have q := List.all_eq_true.mp hc1 x (List.mem_of_getElem? ex)
    obtain ⟨q, q3⟩ := ands q
    obtain ⟨q1, q2⟩ := ands q
    exact ⟨RX.iniB_ok q1 (free _ (by decide)) hsup hst, xfB_ok q2, excB_ok q3⟩
  · obtain ⟨x, ex, rfl⟩ := caI ea
    obtain ⟨y, ey, rfl⟩ := caI eb
    obtain ⟨x1, x2⟩ := getD_of ex
    obtain ⟨y1, y2⟩ := getD_of ey
    have q := List.all_eq_true.mp (List.all_eq_true.mp hc2 k (List.mem_range.mpr x2)) j (List.mem_range.mpr y2)
    rw [x1, y1] at q
    exact of_decide_eq_true q
  · have ex : fit = some x := ex
    subst ex
    refine ⟨He.ga K x, He.glo_ok KX G (c.facts (hfit x rfl)), fun k a ea => ?_⟩
    obtain ⟨y, ey, rfl⟩ := caI ea
    exact of_decide_eq_true (List.all_eq_true.mp hcF y (List.mem_of_getElem? ey))
end
section
variable {P : Program} {w : World} {K : PySem.W.Frag} {h : Heap} {mg : Str → Option Value} {fa : Addr} {body : List Stmt} {ds : List DD} {kw : List (Nat × Nat × List Str × List Nat)} {ks : List (Str × Int)} {cls : List Str} {fit : Option Str} {lamB : Nat → Arguments → Scope → Expr → Bool} {T : Nat → Option Fd}
  {faL : List He.Fa} {fnL : List He.DefD} {tf : List He.Defn} {stL : Stmt} {nL : List Str} {F : Fd} {Wf n : Nat}
/-- a law over its top -/
theorem law_at (KX : K.In h) (hst : StatAt h) (G : h.Ns mainGlobals mg) (c : He.SaysX faL fnL [] tf (clsOkB P cls fit) w h K) (htf : ((("law" : Str), none) : He.Defn) ∈ tf) (hL : (⟨("law", none), "law", "law", defArgs stL, defBody stL, defScope stL, [], []⟩ : He.DefD) ∈ fnL) (hglo : He.Fa.glo "law" ∈ faL) (hmg : mg ("law" : Str) = some (.ref fa))
    (hfn : ∀ e ∈ ds, e.d body ∈ fnL) (hfa : ∀ e ∈ ds, He.Fa.glo e.x ∈ faL) (hblt : ∀ x ∈ bltNames, He.Fa.free x ∈ faL) (hks : ∀ q ∈ ks, He.Fa.int q.1 q.2 ∈ faL) (hcl : ∀ x ∈ cls, He.Fa.glo x ∈ faL) (hfit : ∀ x, fit = some x → He.Fa.glo x ∈ faL) (hsup : (P.main.scope.names.lookup ("super" : Str)).isSome = false)
    (hok : ds.all (DD.okB (namesOf ds kw ks cls fit lamB) body) = true) (hT : ∀ (f : Nat) (e : DD), ds[f]? = some e → T f = some e.F)
    (hb : ∀ (K : PySem.W.Frag) (f : Nat) (e : DD) (fd : FuncData), ds[f]? = some e → FunD K e.x e.x (defArgs (e.st body)) (defBody (e.st body)) (defScope (e.st body)) [] [] (He.ga K e.x) fd → BindOk K kw f e fd)
    (hl : LamOk (namesOf ds kw ks cls fit lamB) T lamB)
    (hfree : ∀ (q : Str) k params scope body, lamB k params scope body = true → (fnsOf K ds cls lamB).ml k ⟨q, params, body, scope⟩ ∧ (∀ y ∈ scope.names, y.2 ≠ .free) ∧ ∀ env, defaultsOf params env = ([], []))
    (S : FnScope nL ["script"] (defScope stL)) (hs : isTop { namesOf ds kw ks cls fit lamB with mks := true } nL [] (defScope stL) F.body (defBody stL) = true) (hm : F.modes = [false]) (hsl : F.slots = nL.length)
    (hbL : ∀ (kV doc pm : Value) (an : Option Addr) (cdv ct : Value) (us : List Value), us.length = (["script"] : List Str).length → bindArgs (PySem.W.fnOf "law" "law" (defArgs stL) (defBody stL) (defScope stL) .none kV doc pm an cdv ct) ⟨us, []⟩ = pure ((["script"] : List Str).zip us))
    (math : ∀ s : List Int, s.length ≤ 63 → (∀ z ∈ s, Builtin.Int.intBits z ≤ 1048576) → runF ⟨RF.G T Wf n, sigT T⟩ Wf F [.z (.scr s)] = .rt (.z (.bl true)) []) :
    ∃ (K : PySem.W.Frag) (c T : Addr), K.In h ∧ StatAt h ∧ h.get? T = some { cls := .none, data := .fields #[] } ∧ K.lookup T = none ∧ PySem.W.CodeHd h c T ∧ LawG P w K (n + 3) 63 "script" mg fa c T := by
  obtain ⟨fd, hF⟩ := c.t.d.defs hL
  have eg := He.glo_ok KX G (c.t.d.facts hglo)
  have ea : fa = He.ga K "law" := by rw [hmg] at eg; exact V.ref.inj (congrArg V.ref (Value.ref.inj (Option.some.inj eg)))
  subst ea
  have hF : FunD K "law" "law" (defArgs stL) (defBody stL) (defScope stL) [] [] (He.ga K "law") fd := hF
  have hcode : ∀ o fd', K.lookup (He.ga K "law") = some o → o.data = .func fd' → fd'.code = .ref (He.cT K ("law", none)).1 := by
    intro o fd' lo eo
    obtain ⟨oc, od, dV, kV, doc, pm, an, cdv, ct, osl, rfl, lk, hcd, _, _⟩ := hF.ex
    rw [lk] at lo
    obtain rfl := Option.some.inj lo
    cases eo
    obtain ⟨cc, rfl⟩ := He.codeIn_ref hcd
    have := He.codeOf_eq (p := (("law" : Str), none)) lk (c := cc) rfl
    show Value.ref cc = .ref (He.codeOf K _)
    rw [this]
  refine ⟨K, (He.cT K ("law", none)).1, (He.cT K ("law", none)).2, KX, hst, c.empty _ htf, c.out _ htf, PySem.W.codeHd_of_K KX (c.hd _ htf), fd, spLaw K (He.cT K ("law", none)).2 (runF ⟨RF.G T Wf n, sigT T⟩ Wf F), fun s u => FunD.bindsA (ps := ["script"]) hF hbL s [u] rfl,
    fun H a ns h1 h2 h3 h4 => ⟨a, ns, rfl, h4, h3, math ns h1 h2, fun _ => rfl⟩, fun base KB GB TB SB => ?_⟩
  obtain ⟨FD, t⟩ := top_of (P := P) (base := base) KX G c.t.d hfn hfa hblt hks hcl hfit c.more hsup SB hok hT (fun f e fd => hb K f e fd) hl fd
  exact t.law hF S hs hm hsl hcode TB fun k ps sc b h => hfree _ k ps sc b h
end
end RF
/-! MV: plain facts of the evaluator for the mathematics of all laws. -/
namespace RF
open PySem
abbrev zi (i : Int) : O := .z (.int i)
abbrev zb (b : Bool) : O := .z (.bl b)
abbrev ret (o : O) : CR := .rt o []
theorem run_eq {C : Cfg} {W : Nat} {F : Fd} {os : List O} (h : os.length = F.modes.length) : runF C W F os = RF.finish F.modes (evalSs C W F.body (os.map some ++ List.replicate (F.slots - os.length) none)) := if_pos h
/-! ### sizes -/
def Sm (k : Nat) (x : Int) : Prop := x.natAbs < 2 ^ k
theorem Sm.mono {j k : Nat} {x : Int} (h : Sm j x) (l : j ≤ k) : Sm k x := Nat.lt_of_lt_of_le h (Nat.pow_le_pow_right (by decide) l)
theorem Sm.log {k : Nat} {x : Int} (h : Sm k x) : x.natAbs.log2 ≤ k := by
  by_cases z : x.natAbs = 0
  · rw [z]; exact Nat.zero_le _
  · exact Nat.le_of_lt ((Nat.log2_lt z).mpr h)
theorem mulOk_of {j k : Nat} {x y : Int} (h1 : Sm j x) (h2 : Sm k y) (l : j + k < 1000000) : mulOk x y = true := by
  unfold mulOk
  have a := h1.log
  have b := h2.log
  exact decide_eq_true (by omega)
theorem divOk_of {k : Nat} {y : Int} (h : Sm k y) (l : k < 9000) (n : y ≠ 0) : divOk y = true := by
  unfold divOk
  have b := h.log
  rw [decide_eq_true n, decide_eq_true (show y.natAbs.log2 < 9000 by omega)]; rfl
theorem Sm.mul {j k : Nat} {x y : Int} (h1 : Sm j x) (h2 : Sm k y) : Sm (j + k) (x * y) := by
  unfold Sm at *
  rw [Int.natAbs_mul, Nat.pow_add]
  exact Nat.mul_lt_mul'' h1 h2
theorem Sm.add {k : Nat} {x y : Int} (h1 : Sm k x) (h2 : Sm k y) : Sm (k + 1) (x + y) := by
  unfold Sm at *
  rw [Nat.pow_succ]
  omega
theorem fmod_range {a b : Int} (hb : 0 < b) : 0 ≤ a.fmod b ∧ a.fmod b < b := by
  rw [Int.fmod_eq_emod_of_nonneg a (by omega)]
  exact ⟨Int.emod_nonneg a (by omega), Int.emod_lt_of_pos a hb⟩
theorem bits_le {k : Nat} {x : Int} (h : Sm k x) : 0 ≤ PySem.Builtin.Int.intBits x ∧ PySem.Builtin.Int.intBits x ≤ k + 1 := by
  have := h.log
  unfold PySem.Builtin.Int.intBits
  split <;> omega
theorem rg_nat {k : Nat} (h : k < 1000000) : rngOk (k : Int) = true := by unfold rngOk; rw [decide_eq_true (show -(2 ^ 40) < (k : Int) by omega), decide_eq_true (show (k : Int) < 2 ^ 40 by omega)]; rfl
theorem rg_int {k : Int} (h : -1000000 < k) (h' : k < 1000000) : rngOk k = true := by unfold rngOk; rw [decide_eq_true (show -(2 ^ 40) < k by omega), decide_eq_true (show k < 2 ^ 40 by omega)]; rfl
theorem lenOk_of {α : Type} {xs : List α} (h : xs.length < 2 ^ 20) : lenOk xs = true := decide_eq_true h
/-! ### comparisons -/
theorem eqv_int (a b : Int) : D.eqv (.int a) (.int b) = decide (a = b) := by
  unfold D.eqv D.py PySem.PyData.eqv
  by_cases h : a = b <;> simp [h]
theorem eq_int (a b : Int) : cmpop .eq (.int a) (.int b) = some (decide (a = b)) := by simp [cmpop, D.ok, eqv_int]
theorem ne_int (a b : Int) : cmpop .ne (.int a) (.int b) = some (!decide (a = b)) := by simp [cmpop, D.ok, eqv_int]
theorem eq_nil {ds : List D} (h : ∀ d ∈ ds, d.ok 59 = true) : cmpop .eq (.lst ds) (.lst []) = some ds.isEmpty := by
  have h1 : (D.lst ds).ok 60 = true := by simp only [D.ok]; exact List.all_eq_true.mpr h
  have h2 : (D.lst []).ok 60 = true := by simp [D.ok]
  simp only [cmpop, h1, h2, Bool.and_self, if_true]
  congr 1
  cases ds <;> simp [D.eqv, D.py, D.pys, PySem.PyData.eqv, PySem.PyData.eqvAll]
theorem ne_nil {ds : List D} (h : ∀ d ∈ ds, d.ok 59 = true) : cmpop .ne (.lst ds) (.lst []) = some (!ds.isEmpty) := by
  have h1 : (D.lst ds).ok 60 = true := by simp only [D.ok]; exact List.all_eq_true.mpr h
  have h2 : (D.lst []).ok 60 = true := by simp [D.ok]
  simp only [cmpop, h1, h2, Bool.and_self, if_true]
  congr 2
  cases ds <;> simp [D.eqv, D.py, D.pys, PySem.PyData.eqv, PySem.PyData.eqvAll]
/-! ### lists -/
/-- a list of ints, as a value -/
abbrev li (xs : List Int) : D := .lst (xs.map .int)
/-- .. owned -/
abbrev ol (xs : List Int) : O := .l (xs.map zi)
def nth (xs : List Int) (j : Nat) : Int := xs.getD j 0
theorem toDs_zi (xs : List Int) : O.toDs (xs.map zi) = xs.map .int := by rw [O.toDs_map, List.map_map]; rfl
theorem toD_ol (xs : List Int) : (ol xs).toD = li xs := by simp only [O.toD]; rw [toDs_zi]
theorem toDs_z (ds : List D) : O.toDs (ds.map .z) = ds := by
  rw [O.toDs_map, List.map_map]
  exact List.map_id' _
theorem toD_lz (ds : List D) : (O.l (ds.map .z)).toD = .lst ds := by simp only [O.toD]; rw [toDs_z]
theorem flat_ol (xs : List Int) : (ol xs).flat = true := by simp [O.flat, O.isZ]
theorem flat_lz (ds : List D) : (O.l (ds.map .z)).flat = true := by simp [O.flat, O.isZ]
theorem zi_map (xs : List Int) : xs.map zi = (xs.map D.int).map .z := by rw [List.map_map]; rfl
theorem ints_map (xs : List Int) : ints? (xs.map .int) = some xs := by
  induction xs with
  | nil => rfl
  | cons x xs ih => simp [ints?, ih]
theorem clean_zi (xs : List Int) : O.cleans (xs.map zi) = true := by rw [O.cleans_all]; simp [O.clean, D.lf]
theorem atI_nat {ds : List D} {j : Nat} : L2.atI ds (j : Int) = ds[j]? := by
  unfold L2.atI L2.ixN
  rw [if_pos (Int.natCast_nonneg j)]
  by_cases h : j < ds.length
  · rw [if_pos (by omega)]; simp
  · rw [if_neg (by omega), List.getElem?_eq_none (by omega)]
    simp
theorem atI_li {xs : List Int} {j : Nat} (h : j < xs.length) : L2.atI (xs.map D.int) (j : Int) = some (.int (nth xs j)) := by
  rw [atI_nat, List.getElem?_map, List.getElem?_eq_getElem h]
  simp [nth, List.getD, h]
theorem rangeL_eq : ∀ (k : Nat) (lo : Int), rangeL lo 1 k = (List.range k).map fun (j : Nat) => D.int (lo + j)
  | 0, _ => rfl
  | k + 1, lo => by
    rw [rangeL, rangeL_eq k, List.range_succ_eq_map, List.map_cons, List.map_map]
    congr 1
    · simp
    · apply List.map_congr_left
      intro j _
      simp only [Function.comp]
      congr 1
      omega
theorem range0 (k : Nat) : rangeL 0 1 k = (List.range k).map fun (j : Nat) => D.int j := by rw [rangeL_eq]; simp
theorem enumL_eq : ∀ (xs : List D) (k : Nat), enumL k xs = (xs.zipIdx k).map fun p => D.tup [.int p.2, p.1]
  | [], _ => rfl
  | x :: xs, k => by rw [enumL, enumL_eq xs (k + 1), List.zipIdx_cons]; rfl
/-! ### comprehensions -/
theorem comp_go {α : Type} {elt cond : Env → R O} {t : Tg} {own : List Nat} {env0 : Env} {q : α → D} {p : α → Bool} {f : α → O} :
    ∀ {xs : List α} {acc : List O}, (∀ x ∈ xs, ∃ e1, tgE t (.z (q x)) env0 = some e1 ∧ cond e1 = .ok (zb (p x)) e1 ∧ (p x = true → elt e1 = .ok (f x) e1) ∧ wipeE e1 own = env0) → acc.length + xs.length ≤ 2 ^ 20 →
      evalComp elt t cond own (xs.map q) env0 acc = .ok (acc ++ (xs.filter p).map f) env0
  | [], acc, _, _ => by simp [evalComp]
  | x :: xs, acc, h, hl => by
    obtain ⟨e1, h1, h2, h3, h4⟩ := h x List.mem_cons_self
    have ih := fun (acc' : List O) (hl' : acc'.length + xs.length ≤ 2 ^ 20) => comp_go (xs := xs) (acc := acc') (fun y hy => h y (List.mem_cons_of_mem _ hy)) hl'
    simp only [List.length_cons] at hl
    rw [List.map_cons, evalComp, h1]
    simp only [h2, R.nox_ok, R.bind_ok]
    cases hp : p x with
    | false =>
      rw [List.filter_cons_of_neg (by simp [hp]), h4, ih acc (by omega)]
    | true =>
      rw [List.filter_cons_of_pos hp, List.map_cons]
      simp only [lenOk_of (show acc.length < 2 ^ 20 by omega), if_true, h3 hp, R.nox_ok, R.bind_ok, h4]
      rw [ih (acc ++ [f x]) (by simp; omega)]
      simp
theorem ev_comp {α : Type} {C : Cfg} {elt : X} {t : Tg} {it : It} {cd : Xo} {own : List Nat} {env env1 : Env} (xs : List α) (q : α → D) (p : α → Bool) (f : α → O) (h1 : evalIt C it env = .ok (xs.map q) env1)
    (h2 : ∀ x ∈ xs, ∃ e1, tgE t (.z (q x)) (wipeE env1 own) = some e1 ∧ evalCond C cd e1 = .ok (zb (p x)) e1 ∧ (p x = true → evalE C elt e1 = .ok (f x) e1) ∧ wipeE e1 own = wipeE env1 own)
    (hl : xs.length ≤ 2 ^ 20) (hp : (pureX elt && pureIt it && pureXo cd) = true) (hc : ∀ x ∈ xs, p x = true → (f x).clean = true) : evalE C (.comp elt t it cd own) env = .ok (.l ((xs.filter p).map f)) env := by
  have go := comp_go (acc := []) h2 (by simpa using hl)
  rw [List.nil_append] at go
  have cl : O.cleans ((xs.filter p).map f) = true := by
    rw [O.cleans_all, List.all_eq_true]
    intro o ho
    obtain ⟨x, hx, rfl⟩ := List.mem_map.mp ho
    obtain ⟨hx1, hx2⟩ := List.mem_filter.mp hx
    exact hc x hx1 hx2
  rw [evalE, h1]
  simp only [R.bind_ok, go, hp, cl, Bool.and_self, if_true]
/-- without a condition -/
theorem ev_compA {α : Type} {C : Cfg} {elt : X} {t : Tg} {it : It} {own : List Nat} {env env1 : Env} (xs : List α) (q : α → D) (f : α → O) (h1 : evalIt C it env = .ok (xs.map q) env1)
    (h2 : ∀ x ∈ xs, ∃ e1, tgE t (.z (q x)) (wipeE env1 own) = some e1 ∧ evalE C elt e1 = .ok (f x) e1 ∧ wipeE e1 own = wipeE env1 own)
    (hl : xs.length ≤ 2 ^ 20) (hp : (pureX elt && pureIt it) = true) (hc : ∀ x ∈ xs, (f x).clean = true) : evalE C (.comp elt t it .none own) env = .ok (.l (xs.map f)) env := by
  have h := ev_comp (cd := .none) xs q (fun _ => true) f h1 (fun x hx => by
    obtain ⟨e1, a, b, c⟩ := h2 x hx
    exact ⟨e1, a, by rw [evalCond], fun _ => b, c⟩) hl (by simpa [pureXo] using hp) fun x hx _ => hc x hx
  rwa [List.filter_eq_self.mpr (fun _ _ => rfl)] at h
/-- .. where the items may be lists -/
theorem ev_compR {α : Type} {C : Cfg} {elt : X} {t : Tg} {it : It} {cd : Xo} {own : List Nat} {env env1 : Env} (xs : List α) (q : α → D) (p : α → Bool) (f : α → O) (h1 : evalIt C it env = .ok (xs.map q) env1)
    (h2 : ∀ x ∈ xs, ∃ e1, tgE t (.z (q x)) (wipeE env1 own) = some e1 ∧ evalCond C cd e1 = .ok (zb (p x)) e1 ∧ (p x = true → evalE C elt e1 = .ok (f x) e1) ∧ wipeE e1 own = wipeE env1 own)
    (hl : xs.length ≤ 2 ^ 20) (hr : restore env1 (wipeE env1 own) own = env) : evalE C (.comp elt t it cd own) env = .ok (.l ((xs.filter p).map f)) env := by
  have go := comp_go (acc := []) h2 (by simpa using hl)
  rw [List.nil_append] at go
  rw [evalE, h1]
  simp only [R.bind_ok, go, hr]
  split <;> rfl
/-- plain data to a depth, no list too long -/
def Gd : Nat → D → Prop
  | _, .non => True
  | _, .bl _ => True
  | _, .int _ => True
  | _, .str x => PyData.strOk x = true
  | n + 1, .lst ds => ds.length < 1000 ∧ ∀ d ∈ ds, Gd n d
  | n + 1, .tup ds => ds.length < 1000 ∧ ∀ d ∈ ds, Gd n d
  | _, _ => False
theorem Gd.ok : ∀ {n : Nat} {d : D}, Gd n d → d.ok n = true
  | n, .non, _ => by cases n <;> rfl
  | n, .bl _, _ => by cases n <;> rfl
  | n, .int _, _ => by cases n <;> rfl
  | n, .str x, h => by cases n <;> (simp only [Gd] at h; simpa [D.ok] using h)
  | n + 1, .lst ds, h => by
    simp only [Gd] at h
    simp only [D.ok, List.all_eq_true]
    exact fun d hd => Gd.ok (h.2 d hd)
  | n + 1, .tup ds, h => by
    simp only [Gd] at h
    simp only [D.ok, List.all_eq_true]
    exact fun d hd => Gd.ok (h.2 d hd)
  | 0, .lst _, h => by simp [Gd] at h
  | 0, .tup _, h => by simp [Gd] at h
  | n, .scr _, h => by cases n <;> simp [Gd] at h
  | n, .fn _, h => by cases n <;> simp [Gd] at h
  | n, .obj _ _, h => by cases n <;> simp [Gd] at h
  | n, .exc _ _, h => by cases n <;> simp [Gd] at h
  | n, .clo _ _, h => by cases n <;> simp [Gd] at h
theorem ok_mono : ∀ {n m : Nat} {d : D}, d.ok n = true → n ≤ m → d.ok m = true
  | n, m, .non, _, _ => by cases m <;> rfl
  | n, m, .bl _, _, _ => by cases m <;> rfl
  | n, m, .int _, _, _ => by cases m <;> rfl
  | n, m, .str x, h, _ => by cases n <;> cases m <;> simpa [D.ok] using h
  | n + 1, m + 1, .lst ds, h, l => by
    simp only [D.ok, List.all_eq_true] at h ⊢
    exact fun d hd => ok_mono (h d hd) (by omega)
  | n + 1, m + 1, .tup ds, h, l => by
    simp only [D.ok, List.all_eq_true] at h ⊢
    exact fun d hd => ok_mono (h d hd) (by omega)
  | n + 1, 0, _, _, l => by omega
  | 0, _, .lst _, h, _ => by simp [D.ok] at h
  | 0, _, .tup _, h, _ => by simp [D.ok] at h
  | n, m, .scr _, h, _ => by cases n <;> simp [D.ok] at h
  | n, m, .fn _, h, _ => by cases n <;> simp [D.ok] at h
  | n, m, .obj _ _, h, _ => by cases n <;> simp [D.ok] at h
  | n, m, .exc _ _, h, _ => by cases n <;> simp [D.ok] at h
  | n, m, .clo _ _, h, _ => by cases n <;> simp [D.ok] at h
theorem Gd.mono : ∀ {n m : Nat} {d : D}, Gd n d → n ≤ m → Gd m d
  | n, m, .non, _, _ => by cases m <;> trivial
  | n, m, .bl _, _, _ => by cases m <;> trivial
  | n, m, .int _, _, _ => by cases m <;> trivial
  | n, m, .str x, h, _ => by cases n <;> cases m <;> simpa [Gd] using h
  | n + 1, m + 1, .lst ds, h, l => by
    simp only [Gd] at h ⊢
    exact ⟨h.1, fun d hd => Gd.mono (h.2 d hd) (by omega)⟩
  | n + 1, m + 1, .tup ds, h, l => by
    simp only [Gd] at h ⊢
    exact ⟨h.1, fun d hd => Gd.mono (h.2 d hd) (by omega)⟩
  | n + 1, 0, _, _, l => by omega
  | 0, _, .lst _, h, _ => by simp [Gd] at h
  | 0, _, .tup _, h, _ => by simp [Gd] at h
  | n, m, .scr _, h, _ => by cases n <;> simp [Gd] at h
  | n, m, .fn _, h, _ => by cases n <;> simp [Gd] at h
  | n, m, .obj _ _, h, _ => by cases n <;> simp [Gd] at h
  | n, m, .exc _ _, h, _ => by cases n <;> simp [Gd] at h
  | n, m, .clo _ _, h, _ => by cases n <;> simp [Gd] at h
theorem gd_li {xs : List Int} (h : xs.length < 1000) : Gd 1 (li xs) := by
  simp only [Gd]
  refine ⟨by simpa using h, fun d hd => ?_⟩
  obtain ⟨i, _, rfl⟩ := List.mem_map.mp hd
  trivial
/-! ### loops -/
theorem ev_for {α : Type} {t : Tg} {body : Env → Out} {q : α → D} (J : Nat → Env → Prop) : ∀ {xs : List α} {k : Nat} {e : Env}, J k e → (∀ (j : Nat) (x : α) (e : Env), xs[j]? = some x → J (k + j) e → ∃ e1 e2, tgE t (.z (q x)) e = some e1 ∧ body e1 = .nx e2 ∧ J (k + j + 1) e2) →
    ∃ e', evalFor t body (xs.map q) e = .nx e' ∧ J (k + xs.length) e'
  | [], k, e, h, _ => ⟨e, by simp [evalFor], h⟩
  | x :: xs, k, e, h, st => by
    obtain ⟨e1, e2, h1, h2, h3⟩ := st 0 x e rfl h
    obtain ⟨e', h4, h5⟩ := ev_for J (xs := xs) (k := k + 1) (e := e2) h3 fun j y e' hj hJ => by
      have := st (j + 1) y e' (by simpa using hj) (by rw [show k + (j + 1) = k + 1 + j by omega]; exact hJ)
      rw [show k + (j + 1) + 1 = k + 1 + j + 1 by omega] at this
      exact this
    refine ⟨e', ?_, by rw [List.length_cons, show k + (xs.length + 1) = k + 1 + xs.length by omega]; exact h5⟩
    rw [List.map_cons, evalFor, h1]
    simp only [h2, h4]
/-- a loop that gives nothing back: one state, or an end -/
theorem nxt {C : Cfg} {W : Nat} {s : RF.S} {r : Ss} {e e' : Env} (h : evalS C W s e = .nx e') : evalSs C W (.cons s r) e = evalSs C W r e' := by rw [evalSs, h]
theorem nxr {C : Cfg} {W : Nat} {s : RF.S} {r : Ss} {e e' : Env} {o : O} (h : evalS C W s e = .rt o e') : evalSs C W (.cons s r) e = .rt o e' := by rw [evalSs, h]
theorem st_ite {C : Cfg} {W : Nat} {c : RF.X} {a b : Ss} {e e' : Env} {k : Bool} (h : evalE C c e = .ok (zb k) e') : evalS C W (.ite c a b) e = if k then evalSs C W a e' else evalSs C W b e' := by
  rw [evalS, h]
  cases k <;> rfl
theorem view_nv {pu : Bool} {a : RF.X} {r : R O} {env : Env} (hv : ∀ i, a ≠ .v i) : viewE pu a r env = r.bind fun o env1 => .ok o.toD env1 := by
  cases a <;> first | rfl | exact absurd rfl (hv _)
theorem ret_ok {C : Cfg} {W : Nat} {e : RF.X} {o : O} {env env1 : Env} (hv : ∀ i, e ≠ .v i) (h : evalE C e env = .ok o env1) : evalS C W (.ret e) env = .rt o env1 := by
  rw [evalS, h]
  · rfl
  · intro i z; exact hv i z
theorem set_ok {C : Cfg} {W i : Nat} {e : RF.X} {o : O} {env env1 : Env} (h : evalE C e env = .ok o env1) : evalS C W (.set i e) env = .nx (env1.set i (some o)) := by
  rw [evalS, h]; rfl
theorem expr_ok {C : Cfg} {W : Nat} {e : RF.X} {o : O} {env env1 : Env} (h : evalE C e env = .ok o env1) : evalS C W (.expr e) env = .nx env1 := by
  rw [evalS, h]; rfl
theorem ev_nil {C : Cfg} {e : Env} : evalE C (.lst .nil) e = .ok (.l []) e := by rw [evalE, evalEs]; rfl
theorem eq_nil_ok {C : Cfg} {x : RF.X} {env env1 : Env} {ds : List D} (hv : ∀ i, x ≠ .v i) (h : evalE C x env = .ok (.l (ds.map .z)) env1) (ok : ∀ d ∈ ds, d.ok 59 = true) : evalE C (.cmp .eq x (.lst .nil)) env = .ok (zb ds.isEmpty) env1 := by
  rw [evalE, view_nv hv, h]
  simp only [R.bind_ok, toD_lz]
  rw [view_nv (fun i z => by cases z), ev_nil]
  simp only [R.bind_ok, O.toD, O.toDs, eq_nil ok]
  rfl
theorem ne_nil_ok {C : Cfg} {x : RF.X} {env env1 : Env} {ds : List D} (hv : ∀ i, x ≠ .v i) (h : evalE C x env = .ok (.l (ds.map .z)) env1) (ok : ∀ d ∈ ds, d.ok 59 = true) : evalE C (.cmp .ne x (.lst .nil)) env = .ok (zb (!ds.isEmpty)) env1 := by
  rw [evalE, view_nv hv, h]
  simp only [R.bind_ok, toD_lz]
  rw [view_nv (fun i z => by cases z), ev_nil]
  simp only [R.bind_ok, O.toD, O.toDs, ne_nil ok]
  rfl
theorem or_f {C : Cfg} {a b : RF.X} {es : Xs} {env env1 : Env} (h : evalE C a env = .ok (zb false) env1) : evalOr C (.cons a (.cons b es)) env = evalOr C (.cons b es) env1 := by
  conv => lhs; unfold evalOr
  rw [h]; rfl
theorem or_t {C : Cfg} {a b : RF.X} {es : Xs} {env env1 : Env} (h : evalE C a env = .ok (zb true) env1) : evalOr C (.cons a (.cons b es)) env = .ok (zb true) env1 := by
  conv => lhs; unfold evalOr
  rw [h]; rfl
theorem or_1 {C : Cfg} {a : RF.X} {env : Env} : evalOr C (.cons a .nil) env = evalE C a env := by
  conv => lhs; unfold evalOr
theorem and_f {C : Cfg} {a b : RF.X} {es : Xs} {env env1 : Env} (h : evalE C a env = .ok (zb false) env1) : evalAnd C (.cons a (.cons b es)) env = .ok (zb false) env1 := by
  conv => lhs; unfold evalAnd
  rw [h]; rfl
theorem and_t {C : Cfg} {a b : RF.X} {es : Xs} {env env1 : Env} (h : evalE C a env = .ok (zb true) env1) : evalAnd C (.cons a (.cons b es)) env = evalAnd C (.cons b es) env1 := by
  conv => lhs; unfold evalAnd
  rw [h]; rfl
theorem and_1 {C : Cfg} {a : RF.X} {env : Env} : evalAnd C (.cons a .nil) env = evalE C a env := by
  conv => lhs; unfold evalAnd
theorem not_ok {C : Cfg} {a : RF.X} {env env1 : Env} {b : Bool} (h : evalE C a env = .ok (zb b) env1) : evalE C (.not a) env = .ok (zb (!b)) env1 := by rw [evalE, h]; rfl
theorem ite_ff {C : Cfg} {W : Nat} {c : RF.X} {a : Ss} {e e' : Env} (h : evalE C c e = .ok (zb false) e') : evalS C W (.ite c a .nil) e = .nx e' := by
  rw [st_ite h]; simp [evalSs]
theorem ite_tr {C : Cfg} {W : Nat} {c x : RF.X} {b : Ss} {e e' e2 : Env} {o : O} (h : evalE C c e = .ok (zb true) e') (hv : ∀ i, x ≠ .v i) (h2 : evalE C x e' = .ok o e2) : evalS C W (.ite c (.cons (.ret x) .nil) b) e = .rt o e2 := by
  rw [st_ite h]
  simp only [if_true]
  rw [evalSs, ret_ok hv h2]
/-! ### iterables -/
theorem it_rng1 {C : Cfg} {a : RF.X} {e e1 : Env} {k : Int} (hr : rngOk k = true) (h : evalE C a e = .ok (zi k) e1) : evalIt C (.rng1 a) e = .ok (rangeL 0 1 k.toNat) e1 := by rw [evalIt, h]; simp only [RF.R.bind, hr, if_true]
theorem it_rngN {C : Cfg} {a : RF.X} {e e1 : Env} {k : Nat} (hk : k < 1000000) (h : evalE C a e = .ok (zi k) e1) : evalIt C (.rng1 a) e = .ok ((List.range k).map fun (j : Nat) => D.int j) e1 := by rw [it_rng1 (rg_nat hk) h, Int.toNat_natCast, range0]
end RF
/-! MW: the evaluator by small rules, where nothing changes. -/
namespace RF
open PySem
theorem vw {C : Cfg} {a : X} {e : Env} {o : O} {pu : Bool} (h : evalE C a e = .ok o e) : viewE pu a (evalE C a e) e = .ok o.toD e := by
  by_cases hv : ∃ i, a = .v i
  · obtain ⟨i, rfl⟩ := hv
    rw [evalE] at h ⊢
    simp only [viewE]
    cases q : getE e i with
    | none => rw [q] at h; cases h
    | some u =>
      rw [q] at h
      cases u with
      | z d => simp only [R.ok.injEq] at h; rw [← h.1]; rfl
      | l os =>
        simp only [R.ok.injEq] at h
        rw [← h.1]
        simp only [h.2, R.bind_ok]
        split <;> rfl
      | t os =>
        simp only [R.ok.injEq] at h
        rw [← h.1]
        simp only [h.2, R.bind_ok]
        split <;> rfl
  · rw [view_nv (fun i z => hv ⟨i, z⟩), h]; rfl
/-- a list of ints lies in slot i -/
def See (e : Env) (i : Nat) (xs : List Int) : Prop := ∃ o, getE e i = some o ∧ o.toD = li xs ∧ o.flat = true
theorem See.z {e : Env} {i : Nat} {xs : List Int} (h : getE e i = some (.z (li xs))) : See e i xs := ⟨_, h, rfl, rfl⟩
theorem See.l {e : Env} {i : Nat} {xs : List Int} (h : getE e i = some (ol xs)) : See e i xs := ⟨_, h, toD_ol xs, flat_ol xs⟩
theorem See.view {e : Env} {i : Nat} {xs : List Int} {r : R O} (h : See e i xs) : viewE true (.v i) r e = .ok (li xs) e := by
  obtain ⟨o, h1, h2, h3⟩ := h
  simp only [viewE, h1]
  cases o with
  | z d => simp only [O.toD] at h2; rw [h2]
  | l os => simp only [h3, Bool.and_self, if_true, h2]
  | t os => simp only [h3, Bool.and_self, if_true, h2]
theorem ev_n {C : Cfg} {e : Env} {k : Int} : evalE C (.n k) e = .ok (zi k) e := by rw [evalE]
theorem ev_gk {C : Cfg} {e : Env} {j : Nat} {k : Int} : evalE C (.gk j k) e = .ok (zi k) e := by rw [evalE]
theorem ev_tt {C : Cfg} {e : Env} {b : Bool} : evalE C (.tt b) e = .ok (zb b) e := by rw [evalE]
theorem ev_s {C : Cfg} {e : Env} {x : Str} : evalE C (.s x) e = .ok (.z (.str x)) e := by rw [evalE]
theorem ev_non {C : Cfg} {e : Env} : evalE C .non e = .ok (.z .non) e := by rw [evalE]
theorem ev_v {C : Cfg} {e : Env} {i : Nat} {d : D} (h : getE e i = some (.z d)) : evalE C (.v i) e = .ok (.z d) e := by rw [evalE, h]
/-- an owned list is shared -/
theorem ev_vf {C : Cfg} {e : Env} {i : Nat} {o : O} (h : getE e i = some o) (hz : o.isZ = false) : evalE C (.v i) e = .ok (frz o) (e.set i (some (frz o))) := by
  rw [evalE, h]
  cases o <;> first | rfl | cases hz
theorem See.ix {C : Cfg} {e : Env} {i : Nat} {b : X} {xs : List Int} {j : Nat} (h : See e i xs) (hp : pureX b = true) (hb : evalE C b e = .ok (zi j) e) (hj : j < xs.length) : evalE C (.ix (.v i) b) e = .ok (zi (nth xs j)) e := by
  rw [evalE, hp, h.view]
  simp only [R.bind_ok, hb, atI_li hj]
  rfl
theorem bin_ok {C : Cfg} {p : Bop} {a b : X} {e : Env} {x y : O} {r : O} (ha : evalE C a e = .ok x e) (hb : evalE C b e = .ok y e) (h : binop p x.toD y.toD = some r) : evalE C (.bin p a b) e = .ok r e := by
  rw [evalE, vw ha]
  simp only [R.bind_ok]
  rw [vw hb]
  simp only [R.bind_ok, h, ofOpt_some]
theorem cmp_ok {C : Cfg} {p : Cop} {a b : X} {e : Env} {x y : O} {r : Bool} (ha : evalE C a e = .ok x e) (hb : evalE C b e = .ok y e) (h : cmpop p x.toD y.toD = some r) : evalE C (.cmp p a b) e = .ok (zb r) e := by
  rw [evalE, vw ha]
  simp only [R.bind_ok]
  rw [vw hb]
  simp only [R.bind_ok, h, ofOpt_some, Option.map_some]
section
variable {C : Cfg} {a b : X} {e : Env} {x y : Int}
theorem add_ok (ha : evalE C a e = .ok (zi x) e) (hb : evalE C b e = .ok (zi y) e) : evalE C (.bin .add a b) e = .ok (zi (x + y)) e := bin_ok ha hb rfl
theorem sub_ok (ha : evalE C a e = .ok (zi x) e) (hb : evalE C b e = .ok (zi y) e) : evalE C (.bin .sub a b) e = .ok (zi (x - y)) e := bin_ok ha hb rfl
theorem lt_ok (ha : evalE C a e = .ok (zi x) e) (hb : evalE C b e = .ok (zi y) e) : evalE C (.cmp .lt a b) e = .ok (zb (decide (x < y))) e := cmp_ok ha hb rfl
theorem le_ok (ha : evalE C a e = .ok (zi x) e) (hb : evalE C b e = .ok (zi y) e) : evalE C (.cmp .le a b) e = .ok (zb (decide (x ≤ y))) e := cmp_ok ha hb rfl
theorem gt_ok (ha : evalE C a e = .ok (zi x) e) (hb : evalE C b e = .ok (zi y) e) : evalE C (.cmp .gt a b) e = .ok (zb (decide (y < x))) e := cmp_ok ha hb rfl
theorem ge_ok (ha : evalE C a e = .ok (zi x) e) (hb : evalE C b e = .ok (zi y) e) : evalE C (.cmp .ge a b) e = .ok (zb (decide (y ≤ x))) e := cmp_ok ha hb rfl
theorem eq_ok (ha : evalE C a e = .ok (zi x) e) (hb : evalE C b e = .ok (zi y) e) : evalE C (.cmp .eq a b) e = .ok (zb (decide (x = y))) e := cmp_ok ha hb (eq_int x y)
theorem ne_ok (ha : evalE C a e = .ok (zi x) e) (hb : evalE C b e = .ok (zi y) e) : evalE C (.cmp .ne a b) e = .ok (zb (!decide (x = y))) e := cmp_ok ha hb (ne_int x y)
theorem neg_ok (ha : evalE C a e = .ok (zi x) e) : evalE C (.neg a) e = .ok (zi (-x)) e := by rw [evalE, ha]; rfl
end
theorem cmp2_ok {C : Cfg} {p q : Cop} {a b c : X} {e : Env} {x y z : O} {r s : Bool} (ha : evalE C a e = .ok x e) (hb : evalE C b e = .ok y e) (hc : evalE C c e = .ok z e) (h : cmpop p x.toD y.toD = some r) (h2 : cmpop q y.toD z.toD = some s) : evalE C (.cmp2 p q a b c) e = .ok (zb (r && s)) e := by
  rw [evalE, vw ha]
  simp only [R.bind_ok]
  rw [vw hb]
  simp only [R.bind_ok, h]
  cases r with
  | false => rfl
  | true =>
    simp only
    rw [vw hc]
    simp only [R.bind_ok, h2, ofOpt_some, Option.map_some, Bool.true_and]
/-! ### values of a builtin -/
theorem vs1 {C : Cfg} {a : X} {e : Env} {o : O} (h : evalE C a e = .ok o e) : evalVs C (.cons a .nil) e = .ok [o.toD] e := by
  rw [evalVs, vw h]
  simp only [R.bind_ok]
  rw [evalVs]
  rfl
theorem See.vs {C : Cfg} {e : Env} {i : Nat} {xs : List Int} (h : See e i xs) : evalVs C (.cons (.v i) .nil) e = .ok [li xs] e := by
  rw [evalVs]
  simp only [pureXs]
  rw [h.view]
  simp only [R.bind_ok]
  rw [evalVs]
  rfl
theorem blv_ok {C : Cfg} {k : Blt} {es : Xs} {e : Env} {ds : List D} {r : O} (h : evalVs C es e = .ok ds e) (h2 : bltV k ds = some r) : evalE C (.blt k es) e = .ok r e := by
  rw [evalE, h]
  simp only [R.bind_ok, h2, ofOpt_some]
theorem len_li (xs : List Int) : bltV .len [li xs] = some (zi xs.length) := by simp [bltV]
theorem sum_li (xs : List Int) : bltV .sum [li xs] = some (zi xs.sum) := by simp only [bltV, ints_map]; rfl
theorem max_li {xs : List Int} {m : Int} (h : xs.max? = some m) : bltV .max1 [li xs] = some (zi m) := by simp only [bltV, ints_map, Option.bind_some, h]; rfl
theorem See.len {C : Cfg} {e : Env} {i : Nat} {xs : List Int} (h : See e i xs) : evalE C (.blt .len (.cons (.v i) .nil)) e = .ok (zi xs.length) e := blv_ok h.vs (len_li xs)
theorem See.sum {C : Cfg} {e : Env} {i : Nat} {xs : List Int} (h : See e i xs) : evalE C (.blt .sum (.cons (.v i) .nil)) e = .ok (zi xs.sum) e := blv_ok h.vs (sum_li xs)
theorem See.max {C : Cfg} {e : Env} {i : Nat} {xs : List Int} {m : Int} (h : See e i xs) (hm : xs.max? = some m) : evalE C (.blt .max1 (.cons (.v i) .nil)) e = .ok (zi m) e := blv_ok h.vs (max_li hm)
theorem len_ok {C : Cfg} {a : X} {e : Env} {os : List O} (h : evalE C a e = .ok (.l os) e) : evalE C (.blt .len (.cons a .nil)) e = .ok (zi os.length) e := by
  refine blv_ok (vs1 h) ?_
  simp [O.toD, bltV, O.toDs_map]
theorem sum_ok {C : Cfg} {a : X} {e : Env} {xs : List Int} (h : evalE C a e = .ok (ol xs) e) : evalE C (.blt .sum (.cons a .nil)) e = .ok (zi xs.sum) e := by
  refine blv_ok (vs1 h) ?_
  rw [toD_ol, sum_li]
theorem max_ok {C : Cfg} {a : X} {e : Env} {xs : List Int} {m : Int} (h : evalE C a e = .ok (ol xs) e) (hm : xs.max? = some m) : evalE C (.blt .max1 (.cons a .nil)) e = .ok (zi m) e := by
  refine blv_ok (vs1 h) ?_
  rw [toD_ol, max_li hm]
theorem lst1_ok {C : Cfg} {a : X} {e : Env} {o : O} (h : evalE C a e = .ok o e) : evalE C (.lst (.cons a .nil)) e = .ok (.l [o]) e := by
  rw [evalE, evalEs, h]
  simp only [R.bind_ok]
  rw [evalEs]
  rfl
theorem lst2_ok {C : Cfg} {a b : X} {e : Env} {o u : O} (h : evalE C a e = .ok o e) (h2 : evalE C b e = .ok u e) : evalE C (.lst (.cons a (.cons b .nil))) e = .ok (.l [o, u]) e := by
  rw [evalE, evalEs, h]
  simp only [R.bind_ok]
  rw [evalEs, h2]
  simp only [R.bind_ok]
  rw [evalEs]
  rfl
/-- joining two lists -/
theorem cat_li (xs ys : List Int) (h : xs.length < 2 ^ 20) (h2 : ys.length < 2 ^ 20) : binop .add (li xs) (li ys) = some (ol (xs ++ ys)) := by
  simp only [binop, lenOk_of (show (xs.map D.int).length < 2 ^ 20 by simpa using h), lenOk_of (show (ys.map D.int).length < 2 ^ 20 by simpa using h2), Bool.and_self, if_true]
  rw [← List.map_append, ← zi_map]
/-! ### calls -/
theorem arg_c {C : Cfg} {a : X} {es : Xs} {ms : List Bool} {e e1 e2 : Env} {o : O} {as : List Ar} (h : evalE C a e = .ok o e1) (h2 : evalArgs C es ms e1 = .ok as e2) : evalArgs C (.cons a es) (false :: ms) e = .ok (.val o.toD :: as) e2 := by
  rw [evalArgs, h]
  simp only [R.bind_ok, h2]
theorem arg_0 {C : Cfg} {e : Env} : evalArgs C .nil [] e = .ok [] e := by rw [evalArgs]
theorem val_ref (ds : List D) : (ds.map Ar.val).map Ar.isRef = List.replicate ds.length false := by
  induction ds with
  | nil => rfl
  | cons d ds ih => simp [ih, List.replicate_succ, Ar.isRef]
theorem val_fetch (e : Env) (ds : List D) : Ar.fetch e (ds.map Ar.val) = some (ds.map .z) := by
  induction ds with
  | nil => rfl
  | cons d ds ih => simp [Ar.fetch, ih]
theorem val_slots (ds : List D) : Ar.slots (ds.map Ar.val) = [] := by
  induction ds with
  | nil => rfl
  | cons d ds ih => simp [Ar.slots, ih]
theorem do_val {C : Cfg} {p : Bool} {f : Nat} {e e1 : Env} (ds : List D) (hs : C.sig f = List.replicate ds.length false) : doCall C p f e e1 (ds.map .val) = back0 p e e1 (C.call f (ds.map .z)) := by
  unfold doCall
  rw [if_pos (by rw [val_ref, hs]), val_fetch, val_slots]
theorem call_rt {C : Cfg} {f : Nat} {es : Xs} {e e1 : Env} {o : O} (ds : List D) (hs : C.sig f = List.replicate ds.length false) (h : evalArgs C es (List.replicate ds.length false) e = .ok (ds.map .val) e1) (hc : C.call f (ds.map .z) = ret o) (cl : o.clean = true) : evalE C (.call true f es) e = .ok o e := by
  rw [evalE, hs, h]
  simp only [R.bind_ok]
  rw [do_val ds hs, hc]
  simp [ret, back0, cl]
theorem call_ex {C : Cfg} {f : Nat} {es : Xs} {e e1 : Env} {c : Nat} {us : List D} (ds : List D) (hs : C.sig f = List.replicate ds.length false) (h : evalArgs C es (List.replicate ds.length false) e = .ok (ds.map .val) e1) (hc : C.call f (ds.map .z) = .ex c us) : evalE C (.call true f es) e = .ex c us := by
  rw [evalE, hs, h]
  simp only [R.bind_ok]
  rw [do_val ds hs, hc]
  rfl
theorem clean_ol (xs : List Int) : (ol xs).clean = true := clean_zi xs
/-! ### more iterables -/
theorem it_seq {C : Cfg} {a : X} {e e1 : Env} {o : O} {ds : List D} (h : evalE C a e = .ok o e1) (hd : o.toD = .lst ds) : evalIt C (.seq a) e = .ok ds e1 := by rw [evalIt, h]; simp only [R.bind_ok, hd]
theorem it_enum {C : Cfg} {a : X} {e e1 : Env} {o : O} {xs : List Int} (h : evalE C a e = .ok o e1) (hd : o.toD = li xs) : evalIt C (.enum a) e = .ok ((List.range xs.length).map fun (j : Nat) => D.tup [.int j, .int (nth xs j)]) e1 := by
  rw [evalIt, h]
  simp only [R.bind_ok, hd]
  congr 1
  rw [enumL_eq]
  apply List.ext_getElem
  · simp
  · intro j h1 h2
    simp only [List.length_map, List.length_zipIdx] at h1
    simp [nth, List.getD, h1]
theorem it_rng2' {C : Cfg} {a b : X} {e : Env} {m n : Int} (hm : rngOk m = true) (hn : rngOk n = true) (h : evalE C a e = .ok (zi m) e) (h2 : evalE C b e = .ok (zi n) e) : evalIt C (.rng2 a b) e = .ok (rangeL m 1 (n - m).toNat) e := by
  rw [evalIt, h]
  simp only [R.bind_ok, h2, hm, hn, Bool.and_self, if_true]
theorem rangeLN (m k : Nat) : rangeL m 1 k = (List.range k).map fun (j : Nat) => D.int (m + j : Nat) := by
  rw [rangeL_eq]
  apply List.map_congr_left
  intro j _
  rw [Int.natCast_add]
theorem it_rng2 {C : Cfg} {a b : X} {e : Env} {m n : Nat} (hm : m < 1000000) (hn : n < 1000000) (h : evalE C a e = .ok (zi m) e) (h2 : evalE C b e = .ok (zi n) e) : evalIt C (.rng2 a b) e = .ok ((List.range (n - m)).map fun (j : Nat) => D.int (m + j : Nat)) e := by
  rw [it_rng2' (rg_nat hm) (rg_nat hn) h h2, show ((n : Int) - (m : Int)).toNat = n - m by omega, rangeLN]
/-! ### statements -/
theorem app_ok {C : Cfg} {W i : Nat} {a : X} {e : Env} {o : O} {os : List O} (hi : getE e i = some (.l os)) (h : evalE C a e = .ok o e) (hl : os.length < 2 ^ 20) : evalS C W (.app i a) e = .nx (e.set i (some (.l (os ++ [o])))) := by
  rw [evalS, hi]
  simp only [h, Out.ofR_ok, hi, lenOk_of hl, if_true]
theorem for_ok {C : Cfg} {W : Nat} {t : Tg} {it : It} {b : Ss} {e e1 e2 : Env} {ds : List D} (h : evalIt C it e = .ok ds e1) (h2 : evalFor t (fun e => evalSs C W b e) ds e1 = .nx e2) : evalS C W (.for t it b) e = .nx e2 := by
  rw [evalS, h]
  exact h2
theorem nx0 {C : Cfg} {W : Nat} {e : Env} : evalSs C W .nil e = .nx e := by rw [evalSs]
theorem retv {C : Cfg} {W i : Nat} {e : Env} {o : O} (h : getE e i = some o) : evalS C W (.ret (.v i)) e = .rt o (e.set i none) := by rw [evalS, h]
/-! ### comprehensions of which nothing is left -/
theorem comp_nil {α : Type} {C : Cfg} {elt cd : X} {t : Tg} {it : It} {own : List Nat} {e : Env} (xs : List α) (q : α → D) (h1 : evalIt C it e = .ok (xs.map q) e)
    (h2 : ∀ x ∈ xs, ∃ e1, tgE t (.z (q x)) (wipeE e own) = some e1 ∧ evalE C cd e1 = .ok (zb false) e1 ∧ wipeE e1 own = wipeE e own)
    (hl : xs.length ≤ 2 ^ 20) (hp : (pureX elt && pureIt it && pureX cd) = true) : evalE C (.comp elt t it (.some cd) own) e = .ok (.l []) e := by
  have q := ev_comp (elt := elt) (cd := .some cd) xs q (fun _ => false) (fun _ => zi 0) h1 (fun x hx => by
    obtain ⟨e1, a, b, c⟩ := h2 x hx
    exact ⟨e1, a, by rw [evalCond]; exact b, (fun z => nomatch z), c⟩) hl (by simpa [pureXo] using hp) (fun _ _ z => nomatch z)
  rw [show xs.filter (fun _ => false) = [] from by simp, List.map_nil] at q
  exact q
theorem eqn_t {C : Cfg} {x : X} {e : Env} (h : evalE C x e = .ok (.l []) e) : evalE C (.cmp .eq x (.lst .nil)) e = .ok (zb true) e := cmp_ok h ev_nil (eq_nil (ds := []) (fun _ z => nomatch z))
theorem nen_f {C : Cfg} {x : X} {e : Env} (h : evalE C x e = .ok (.l []) e) : evalE C (.cmp .ne x (.lst .nil)) e = .ok (zb false) e := cmp_ok h ev_nil (ne_nil (ds := []) (fun _ z => nomatch z))
theorem isi_ok {C : Cfg} {a : X} {t : Ty} {e : Env} {o : O} {b : Bool} (h : evalE C a e = .ok o e) (h2 : isiV t o.toD = some b) : evalE C (.isi t a) e = .ok (zb b) e := by
  rw [evalE, vw h]
  simp only [R.bind_ok, h2, Option.map_some, ofOpt_some]
end RF
/-! MX: more rules of the evaluator. -/
namespace MX
open RF
open PySem (PyData)
theorem nth_mem {xs : List Int} {j : Nat} (h : j < xs.length) : nth xs j ∈ xs := by
  have : nth xs j = xs[j] := by simp [nth, List.getD, h]
  rw [this]; exact List.getElem_mem h
theorem args2 {C : Cfg} {e : RF.Env} {i j : Nat} {a b : D} (h1 : getE e i = some (.z a)) (h2 : getE e j = some (.z b)) : evalArgs C (.cons (.v i) (.cons (.v j) .nil)) [false, false] e = .ok ([a, b].map Ar.val) e := arg_c (ev_v h1) (arg_c (ev_v h2) arg_0)
theorem args1 {C : Cfg} {e : RF.Env} {i : Nat} {a : D} (h1 : getE e i = some (.z a)) : evalArgs C (.cons (.v i) .nil) [false] e = .ok ([a].map Ar.val) e := arg_c (ev_v h1) arg_0
theorem cut_drop {α : Type} (xs : List α) (j : Nat) : cutL xs (some (j : Int)) none = xs.drop j := by
  have e1 : HT.sIx xs.length 0 (some (j : Int)) = min j xs.length := by
    unfold HT.sIx
    simp [show ¬ ((j : Int) < 0) by omega]
  have e2 : HT.sIx xs.length xs.length none = xs.length := by unfold HT.sIx; rfl
  unfold cutL
  rw [e1, e2]
  by_cases h : j ≤ xs.length
  · rw [Nat.min_eq_left h, List.take_of_length_le (by simp)]
  · rw [Nat.min_eq_right (by omega), List.drop_eq_nil_of_le (Nat.le_refl _), List.drop_eq_nil_of_le (by omega), List.take_nil]
theorem map_zi (xs : List Nat) (f : Nat → Int) : (xs.map fun j => zi (f j)) = (xs.map f).map zi := by rw [List.map_map]; rfl
theorem and2_ok {C : Cfg} {a b : RF.X} {e : RF.Env} {x y : Bool} (ha : evalE C a e = .ok (zb x) e) (hb : evalE C b e = .ok (zb y) e) : evalE C (.and (.cons a (.cons b .nil))) e = .ok (zb (x && y)) e := by
  rw [evalE]
  cases x with
  | false => rw [and_f ha]; rfl
  | true => rw [and_t ha, and_1, hb]; rfl
theorem or2_ok {C : Cfg} {a b : RF.X} {e : RF.Env} {x y : Bool} (ha : evalE C a e = .ok (zb x) e) (hb : evalE C b e = .ok (zb y) e) : evalE C (.or (.cons a (.cons b .nil))) e = .ok (zb (x || y)) e := by
  rw [evalE]
  cases x with
  | true => rw [or_t ha]; rfl
  | false => rw [or_f ha, or_1, hb]; rfl
theorem whl_go {test : RF.Env → RF.R O} {body : RF.Env → Out} {n : Nat} {e e1 : RF.Env} (h : test e = .ok (zb true) e) (h2 : body e = .nx e1) : evalWhile test body (n + 1) e = evalWhile test body n e1 := by
  rw [evalWhile, h]
  simp only [Out.ofR_ok, h2]
theorem whl_end {test : RF.Env → RF.R O} {body : RF.Env → Out} {n : Nat} {e : RF.Env} (h : test e = .ok (zb false) e) : evalWhile test body (n + 1) e = .nx e := by
  rw [evalWhile, h]
  rfl
abbrev mrow (n : Nat) (F : Nat → Bool) : O := .l ((List.range n).map fun o => zb (F o))
abbrev mat (n : Nat) (F : Nat → Nat → Bool) : O := .l ((List.range n).map fun r => mrow n (F r))
theorem mrow_congr {n : Nat} {F G : Nat → Bool} (h : ∀ o < n, F o = G o) : mrow n F = mrow n G := congrArg O.l (List.map_congr_left fun o ho => by rw [h o (List.mem_range.mp ho)])
theorem mat_congr {n : Nat} {F G : Nat → Nat → Bool} (h : ∀ r < n, ∀ o < n, F r o = G r o) : mat n F = mat n G := congrArg O.l (List.map_congr_left fun r hr => mrow_congr (h r (List.mem_range.mp hr)))
theorem clean_mrow (n : Nat) (F : Nat → Bool) : (mrow n F).clean = true := by
  simp only [O.clean]
  rw [O.cleans_all, List.all_eq_true]
  intro o ho
  obtain ⟨j, _, rfl⟩ := List.mem_map.mp ho
  rfl
theorem clean_mat (n : Nat) (F : Nat → Nat → Bool) : (mat n F).clean = true := by
  simp only [O.clean]
  rw [O.cleans_all, List.all_eq_true]
  intro o ho
  obtain ⟨j, _, rfl⟩ := List.mem_map.mp ho
  exact clean_mrow n (F j)
theorem toD_mrow (n : Nat) (F : Nat → Bool) : (mrow n F).toD = .lst ((List.range n).map fun o => D.bl (F o)) := by
  simp only [O.toD]
  rw [O.toDs_map, List.map_map]
  rfl
theorem toD_mat (n : Nat) (F : Nat → Nat → Bool) : (mat n F).toD = .lst ((List.range n).map fun r => .lst ((List.range n).map fun o => D.bl (F r o))) := by
  simp only [O.toD]
  rw [O.toDs_map, List.map_map]
  congr 1
  apply List.map_congr_left
  intro r _
  exact toD_mrow n (F r)
theorem atI_map {n j : Nat} (f : Nat → D) (h : j < n) : L2.atI ((List.range n).map f) (j : Int) = some (f j) := by
  rw [atI_nat, List.getElem?_map, List.getElem?_range h]; rfl
theorem ix2_ok {C : Cfg} {e : RF.Env} {i n t c : Nat} {a b : RF.X} {F : Nat → Nat → Bool} (hi : getE e i = some (mat n F)) (ha : evalE C a e = .ok (zi t) e) (hb : evalE C b e = .ok (zi c) e) (ht : t < n) (hc : c < n) : evalE C (.ix2 i a b) e = .ok (zb (F t c)) e := by
  rw [evalE, hi]
  simp only [ha, RF.R.bind_ok, toD_mat]
  simp only [ix1V, atI_map (fun r => D.lst ((List.range n).map fun o => D.bl (F r o))) ht, hb, RF.R.bind_ok, ix1L, atI_map (fun o => D.bl (F t o)) hc]
  rfl
theorem mat_set {n t : Nat} {F : Nat → Nat → Bool} {G : Nat → Bool} : ((List.range n).map fun r => mrow n (F r)).set t (mrow n G) = (List.range n).map fun r => mrow n (if r = t then G else F r) := by
  apply List.ext_getElem
  · simp
  · intro j h1 h2
    simp only [List.getElem_set, List.getElem_map, List.getElem_range]
    by_cases e : t = j
    · rw [if_pos e, if_pos e.symm]
    · rw [if_neg e, if_neg (fun z => e z.symm)]
abbrev tp (i j : Nat) : D := .tup [.int i, .int j]
theorem eqv_tp (i j k l : Nat) : D.eqv (tp i j) (tp k l) = (decide (i = k) && decide (j = l)) := by
  rw [Bool.eq_iff_iff]
  simp [D.eqv, D.py, D.pys, PySem.PyData.eqv, PySem.PyData.eqvAll]
  omega
theorem ok_tp (i j n : Nat) : (tp i j).ok (n + 1) = true := by simp [D.ok]
theorem tup2_ok {C : Cfg} {a b : RF.X} {e : RF.Env} {x y : D} (ha : evalE C a e = .ok (.z x) e) (hb : evalE C b e = .ok (.z y) e) : evalE C (.tup (.cons a (.cons b .nil))) e = .ok (.z (.tup [x, y])) e := by
  rw [evalE, evalEs, ha]
  simp only [RF.R.bind_ok]
  rw [evalEs, hb]
  simp only [RF.R.bind_ok]
  rw [evalEs]
  rfl
theorem sto_ok {C : Cfg} {Wx i j : Nat} {k x : RF.X} {e : RF.Env} {o : O} {os : List O} (hi : getE e i = some (.l os)) (hx : evalE C x e = .ok o e) (hk : evalE C k e = .ok (zi j) e) (hj : j < os.length) : evalS C Wx (.sto i k x) e = .nx (e.set i (some (.l (os.set j o)))) := by
  have q : L2.ixN os.length (j : Int) = some j := by
    unfold L2.ixN
    rw [if_pos (Int.natCast_nonneg j), if_pos (by omega)]
    simp
  rw [evalS, hx]
  simp only [Out.ofR_ok, hi, hk, q]
theorem ix_tup {C : Cfg} {e : RF.Env} {i j : Nat} {b : RF.X} {ds : List D} {d : D} (h : getE e i = some (.z (.tup ds))) (hb : evalE C b e = .ok (zi j) e) (hj : ds[j]? = some d) : evalE C (.ix (.v i) b) e = .ok (.z d) e := by
  rw [evalE]
  simp only [viewE, h, RF.R.bind_ok, hb, atI_nat, hj]
  rfl
theorem ix_lst {C : Cfg} {e : RF.Env} {i j : Nat} {b : RF.X} {ds : List D} {d : D} (h : getE e i = some (.z (.lst ds))) (hb : evalE C b e = .ok (zi j) e) (hj : ds[j]? = some d) : evalE C (.ix (.v i) b) e = .ok (.z d) e := by
  rw [evalE]
  simp only [viewE, h, RF.R.bind_ok, hb, atI_nat, hj]
  rfl
theorem and3_ok {C : Cfg} {a b c : RF.X} {e : RF.Env} {x y z : Bool} (ha : evalE C a e = .ok (zb x) e) (hb : evalE C b e = .ok (zb y) e) (hc : evalE C c e = .ok (zb z) e) : evalE C (.and (.cons a (.cons b (.cons c .nil)))) e = .ok (zb (x && (y && z))) e := by
  rw [evalE]
  cases x with
  | false => rw [and_f ha]; rfl
  | true =>
    rw [and_t ha]
    have := and2_ok hb hc
    rw [evalE] at this
    exact this
abbrev ptD (ps : List (Nat × Nat)) : List D := ps.map fun p => tp p.1 p.2
abbrev ptO (ps : List (Nat × Nat)) : O := .l ((ptD ps).map .z)
theorem ptO_map (ps : List (Nat × Nat)) : ptO ps = .l (ps.map fun p => .z (tp p.1 p.2)) := by rw [ptO, List.map_map]; rfl
theorem clean_pt (ps : List (Nat × Nat)) : (ptO ps).clean = true := by
  simp only [O.clean]
  rw [O.cleans_all, List.all_eq_true]
  intro o ho
  obtain ⟨d, hd, rfl⟩ := List.mem_map.mp ho
  obtain ⟨p, _, rfl⟩ := List.mem_map.mp hd
  rfl
theorem grow {C : Cfg} {Wx i : Nat} {x : RF.X} {e : RF.Env} {os : List O} {ds fs : List D} {o : O} (hi : getE e i = some (.l os)) (hf : (O.l os).flat = true) (hp : pureX x = true) (ho : O.toDs os = ds) (hx : evalE C x e = .ok o e) (hd : o.toD = .lst fs) (h1 : ds.length < 2 ^ 20) (h2 : fs.length < 2 ^ 20) : evalS C Wx (.set i (.bin .add (.v i) x)) e = .nx (e.set i (some (.l ((ds ++ fs).map .z)))) := by
  refine set_ok ?_
  have v0 : viewE true (.v i) (evalE C (.v i) e) e = .ok (.lst ds) e := by
    simp only [viewE, hi, hf, Bool.and_self, if_true, O.toD, ho]
  rw [evalE, hp, v0]
  simp only [RF.R.bind_ok]
  rw [vw hx]
  simp only [RF.R.bind_ok, hd, binop, lenOk_of h1, lenOk_of h2, Bool.and_self, if_true, ofOpt_some]
theorem set_self {e : RF.Env} {i : Nat} {o : O} (h : getE e i = some o) : e.set i (some o) = e := by
  unfold getE at h
  apply List.ext_getElem?
  intro j
  rw [List.getElem?_set]
  by_cases q : i = j
  · subst q
    rw [if_pos rfl]
    cases z : e[i]? with
    | none => rw [z] at h; cases h
    | some w =>
      rw [z] at h
      have l := (List.getElem?_eq_some_iff.mp z).1
      rw [if_pos l]
      simp at h
      rw [h]
  · rw [if_neg q]
theorem ev_vz {C : Cfg} {e : RF.Env} {i : Nat} {o : O} (h : getE e i = some o) : evalE C (.v i) e = .ok (frz o) (e.set i (some (frz o))) := by
  cases o with
  | z d => rw [ev_v h]; show _ = RF.R.ok (O.z d) (e.set i (some (O.z d))); rw [set_self h]
  | l os => exact ev_vf h rfl
  | t os => exact ev_vf h rfl
theorem grow2 {C : Cfg} {Wx i : Nat} {x : RF.X} {e : RF.Env} {os : List O} {ds fs : List D} {o : O} (hi : getE e i = some (.l os)) (hp : pureX x = true) (ho : O.toDs os = ds) (hx : ∀ v : O, v.toD = .lst ds → evalE C x (e.set i (some v)) = .ok o (e.set i (some v))) (hd : o.toD = .lst fs) (h1 : ds.length < 2 ^ 20) (h2 : fs.length < 2 ^ 20) : evalS C Wx (.set i (.bin .add (.v i) x)) e = .nx (e.set i (some (.l ((ds ++ fs).map .z)))) := by
  have td : (O.l os).toD = .lst ds := by simp only [O.toD, ho]
  by_cases hf : (O.l os).flat = true
  · have q := hx (.l os) td
    rw [set_self hi] at q
    exact grow hi hf hp ho q hd h1 h2
  · have q := hx (frz (.l os)) td
    have e2 : evalE C (.bin .add (.v i) x) e = .ok (.l ((ds ++ fs).map .z)) (e.set i (some (frz (.l os)))) := by
      have v0 : viewE true (.v i) (evalE C (.v i) e) e = .ok (.lst ds) (e.set i (some (frz (.l os)))) := by
        simp only [viewE, hi, hf, Bool.and_false, Bool.false_eq_true, if_false, ev_vz hi, RF.R.bind_ok]
        show RF.R.ok (frz (.l os)).toD _ = _
        rw [show (frz (.l os)).toD = .lst ds from td]
      rw [evalE, hp, v0]
      simp only [RF.R.bind_ok]
      rw [vw q]
      simp only [RF.R.bind_ok, hd, binop, lenOk_of h1, lenOk_of h2, Bool.and_self, if_true, ofOpt_some]
    rw [set_ok e2, List.set_set]
theorem expr_ex {C : Cfg} {Wx : Nat} {x : RF.X} {r : Ss} {e : RF.Env} {c : Nat} {us : List D} (h : evalE C x e = .ex c us) : evalSs C Wx (.cons (.expr x) r) e = .ex c us := by
  rw [evalSs, evalS, h]; rfl
theorem cut_take {α : Type} (xs : List α) (j : Nat) (h : j ≤ xs.length) : cutL xs none (some (j : Int)) = xs.take j := by
  unfold cutL
  rw [HT.sIx_nat, HT.sIx_none, List.drop_zero, Nat.min_eq_left h, Nat.sub_zero]
theorem sl_take {C : Cfg} {e : RF.Env} {i j k : Nat} {ds : List D} (hi : getE e i = some (.z (.lst ds))) (hk : getE e k = some (zi j)) (h : j ≤ ds.length) : evalE C (.sl (.v i) .none (.some (.v k))) e = .ok (.l ((ds.take j).map .z)) e := by
  have p : evalPart C (.some (.v k)) e = .ok (some (j : Int)) e := by rw [evalPart, ev_v hk]; rfl
  have q : evalPart C .none e = .ok none e := by rw [evalPart]
  rw [evalE]
  simp only [viewE, hi, RF.R.bind_ok, q, p]
  rw [cut_take ds j h]
theorem sl_drop {C : Cfg} {e : RF.Env} {i j : Nat} {a : RF.X} {ds : List D} (hi : getE e i = some (.z (.lst ds))) (hk : evalE C a e = .ok (zi j) e) : evalE C (.sl (.v i) (.some a) .none) e = .ok (.l ((ds.drop j).map .z)) e := by
  have p : evalPart C (.some a) e = .ok (some (j : Int)) e := by rw [evalPart, hk]; rfl
  have q : evalPart C .none e = .ok none e := by rw [evalPart]
  rw [evalE]
  simp only [viewE, hi, RF.R.bind_ok, q, p]
  rw [cut_drop]
theorem cat_ok {C : Cfg} {a b : RF.X} {e : RF.Env} {x y : O} {xs ys : List D} (ha : evalE C a e = .ok x e) (hb : evalE C b e = .ok y e) (hx : x.toD = .lst xs) (hy : y.toD = .lst ys) (h1 : xs.length < 2 ^ 20) (h2 : ys.length < 2 ^ 20) : evalE C (.bin .add a b) e = .ok (.l ((xs ++ ys).map .z)) e := by
  refine bin_ok ha hb ?_
  rw [hx, hy]
  simp only [binop, lenOk_of h1, lenOk_of h2, Bool.and_self, if_true]
theorem es_c {C : Cfg} {a : RF.X} {es : Xs} {e : RF.Env} {o : O} {os : List O} (h : evalE C a e = .ok o e) (h2 : evalEs C es e = .ok os e) : evalEs C (.cons a es) e = .ok (o :: os) e := by
  rw [evalEs, h]
  simp only [RF.R.bind_ok, h2]
theorem es_0 {C : Cfg} {e : RF.Env} : evalEs C .nil e = .ok [] e := by rw [evalEs]
theorem lst_ok {C : Cfg} {es : Xs} {e : RF.Env} {os : List O} (h : evalEs C es e = .ok os e) : evalE C (.lst es) e = .ok (.l os) e := by
  rw [evalE, h]; rfl
theorem catv_ok {C : Cfg} {i : Nat} {x : RF.X} {e : RF.Env} {ds fs : List D} {o : O} (hi : getE e i = some (.l (ds.map .z))) (hp : pureX x = true) (hx : evalE C x e = .ok o e) (hd : o.toD = .lst fs) (h1 : ds.length < 2 ^ 20) (h2 : fs.length < 2 ^ 20) : evalE C (.bin .add (.v i) x) e = .ok (.l ((ds ++ fs).map .z)) e := by
  have v0 : viewE true (.v i) (evalE C (.v i) e) e = .ok (.lst ds) e := by
    simp only [viewE, hi, flat_lz, Bool.and_self, if_true, toD_lz]
  rw [evalE, hp, v0]
  simp only [RF.R.bind_ok]
  rw [vw hx]
  simp only [RF.R.bind_ok, hd, binop, lenOk_of h1, lenOk_of h2, Bool.and_self, if_true, ofOpt_some]
theorem fin_nxt {ms : List Bool} {C : Cfg} {Wx : Nat} {s : RF.S} {r : Ss} {e e' : RF.Env} (h : evalS C Wx s e = .nx e') : RF.finish ms (evalSs C Wx (.cons s r) e) = RF.finish ms (evalSs C Wx r e') := by rw [nxt h]
theorem fin_nxr {ms : List Bool} {C : Cfg} {Wx : Nat} {s : RF.S} {r : Ss} {e e' : RF.Env} {o : O} (h : evalS C Wx s e = .rt o e') : RF.finish ms (evalSs C Wx (.cons s r) e) = RF.finish ms (.rt o e') := by rw [nxr h]
theorem bin_okl {C : Cfg} {p : Bop} {a b : RF.X} {e e1 : RF.Env} {x y r : O} (hv : ∀ i, a ≠ .v i) (ha : evalE C a e = .ok x e1) (hb : evalE C b e1 = .ok y e1) (h : binop p x.toD y.toD = some r) : evalE C (.bin p a b) e = .ok r e1 := by
  rw [evalE, view_nv hv, ha]
  simp only [RF.R.bind_ok]
  rw [vw hb]
  simp only [RF.R.bind_ok, h, ofOpt_some]
theorem bin_okr {C : Cfg} {p : Bop} {a b : RF.X} {e e1 : RF.Env} {x y r : O} (hv : ∀ i, b ≠ .v i) (ha : evalE C a e = .ok x e) (hb : evalE C b e = .ok y e1) (h : binop p x.toD y.toD = some r) : evalE C (.bin p a b) e = .ok r e1 := by
  rw [evalE, vw ha]
  simp only [RF.R.bind_ok]
  rw [view_nv hv, hb]
  simp only [RF.R.bind_ok, h, ofOpt_some]
def ok2 (d : PyData) : Prop := ∀ k, 0x110000 ≤ k → k ∉ d.shown.cps.toList
theorem free_int (i : Int) : ok2 (.int i) := fun k hk => PyProof.Rows.shown_int_free' ⟨by omega, .inr (by omega)⟩ i
theorem free_list {xs : List PyData} (h : ∀ x ∈ xs, ok2 x) : ok2 (.list xs) := fun k hk => by
  rw [PyData.shown_list]
  have q := PyProof.Rows.shownAll_free (k := k) (fun x hx => h x hx k hk)
  rw [PyProof.Rows.mem_cps_append, PyProof.Rows.mem_cps_append, PyProof.Rows.signs_lbrack, PyProof.Rows.signs_rbrack, PyProof.Rows.mem_join, PyProof.Rows.signs_sep]
  rintro ((hm | (⟨t, ht, hc⟩ | ⟨_, hm⟩)) | hm)
  · simp at hm; omega
  · exact q t ht hc
  · simp at hm; omega
  · simp at hm; omega
theorem strOk_of {d : PyData} (h : ok2 d) : PyData.strOk d.shown = true := by
  show d.shown.cps.all (· < 0x110000) = true
  rw [Array.all_eq_true_iff_forall_mem]
  intro c hc
  apply Classical.byContradiction
  intro z
  simp only [decide_eq_true_eq] at z
  exact h c (by omega) (Array.mem_toList_iff.mpr hc)
theorem frz_ol (xs : List Int) : frz (ol xs) = .z (li xs) := by unfold frz; rw [toD_ol]
theorem ev_vol {C : Cfg} {e : RF.Env} {i : Nat} {xs : List Int} (h : getE e i = some (ol xs)) : evalE C (.v i) e = .ok (.z (li xs)) (e.set i (some (.z (li xs)))) := by
  rw [ev_vf h rfl, frz_ol]
theorem es_e {C : Cfg} {a : RF.X} {es : Xs} {e e1 e2 : RF.Env} {o : O} {os : List O} (h : evalE C a e = .ok o e1) (h2 : evalEs C es e1 = .ok os e2) : evalEs C (.cons a es) e = .ok (o :: os) e2 := by
  rw [evalEs, h]
  simp only [RF.R.bind_ok, h2]
theorem lst_e {C : Cfg} {es : Xs} {e e1 : RF.Env} {os : List O} (h : evalEs C es e = .ok os e1) : evalE C (.lst es) e = .ok (.l os) e1 := by
  rw [evalE, h]; rfl
theorem tupT {C : Cfg} {a b : RF.X} {e e1 e2 : RF.Env} {x y : O} (h : evalE C a e = .ok x e1) (h2 : evalE C b e1 = .ok y e2) (hz : (x.isZ && y.isZ) = false) : evalE C (.tup (.cons a (.cons b .nil))) e = .ok (.t [x, y]) e2 := by
  rw [evalE, es_e h (es_e h2 es_0)]
  simp only [RF.R.bind_ok, List.all_cons, List.all_nil, Bool.and_true, hz, Bool.false_eq_true, if_false]
theorem asg2 {C : Cfg} {Wx i j : Nat} {x : RF.X} {e e1 : RF.Env} {a b : O} (h : evalE C x e = .ok (.t [a, b]) e1) : evalS C Wx (.asg [i, j] x) e = .nx ((e1.set i (some a)).set j (some b)) := by
  rw [evalS, h]; rfl
theorem catf_ok {C : Cfg} {i : Nat} {x : RF.X} {e : RF.Env} {os : List O} {ds fs : List D} {o : O} (hi : getE e i = some (.l os)) (hf : (O.l os).flat = false) (hp : pureX x = true) (ho : O.toDs os = ds) (hx : evalE C x (e.set i (some (frz (.l os)))) = .ok o (e.set i (some (frz (.l os))))) (hd : o.toD = .lst fs) (h1 : ds.length < 2 ^ 20) (h2 : fs.length < 2 ^ 20) : evalE C (.bin .add (.v i) x) e = .ok (.l ((ds ++ fs).map .z)) (e.set i (some (frz (.l os)))) := by
  have td : (O.l os).toD = .lst ds := by simp only [O.toD, ho]
  have v0 : viewE true (.v i) (evalE C (.v i) e) e = .ok (.lst ds) (e.set i (some (frz (.l os)))) := by
    simp only [viewE, hi, hf, Bool.and_false, Bool.false_eq_true, if_false, ev_vz hi, RF.R.bind_ok]
    show RF.R.ok (frz (.l os)).toD _ = _
    rw [show (frz (.l os)).toD = .lst ds from td]
  rw [evalE, hp, v0]
  simp only [RF.R.bind_ok]
  rw [vw hx]
  simp only [RF.R.bind_ok, hd, binop, lenOk_of h1, lenOk_of h2, Bool.and_self, if_true, ofOpt_some]
theorem ev_g {C : Cfg} {e : RF.Env} {f : Nat} : evalE C (.g f) e = .ok (.z (.fn f)) e := by rw [evalE]
theorem str_eq {x : PySem.Str} (h : PySem.PyData.strOk x = true) : cmpop .eq (.str x) (.str x) = some true := by
  have e : D.eqv (.str x) (.str x) = true := by simp [D.eqv, D.py, PySem.PyData.eqv]
  simp [cmpop, D.ok, h, e]
theorem ne_ok' {C : Cfg} {x : RF.X} {e e1 : RF.Env} {os : List O} (hv : ∀ i, x ≠ .v i) (h : evalE C x e = .ok (.l os) e1) (hk : ∀ o ∈ os, o.toD.ok 59 = true) : evalE C (.cmp .ne x (.lst .nil)) e = .ok (zb (!os.isEmpty)) e1 := by
  rw [evalE, view_nv hv, h]
  simp only [RF.R.bind_ok]
  rw [vw ev_nil]
  simp only [RF.R.bind_ok, O.toD, O.toDs]
  rw [ne_nil (fun d hd => by
    rw [O.toDs_map] at hd
    obtain ⟨o, ho, rfl⟩ := List.mem_map.mp hd
    exact hk o ho)]
  rw [O.toDs_map, List.isEmpty_map]
  rfl
theorem eq_ok' {C : Cfg} {x : RF.X} {e e1 : RF.Env} {os : List O} (hv : ∀ i, x ≠ .v i) (h : evalE C x e = .ok (.l os) e1) (hk : ∀ o ∈ os, o.toD.ok 59 = true) : evalE C (.cmp .eq x (.lst .nil)) e = .ok (zb os.isEmpty) e1 := by
  rw [evalE, view_nv hv, h]
  simp only [RF.R.bind_ok]
  rw [vw ev_nil]
  simp only [RF.R.bind_ok, O.toD, O.toDs]
  rw [eq_nil (fun d hd => by
    rw [O.toDs_map] at hd
    obtain ⟨o, ho, rfl⟩ := List.mem_map.mp hd
    exact hk o ho)]
  rw [O.toDs_map, List.isEmpty_map]
  rfl
/-- a list of naturals, as ints -/
abbrev on (xs : List Nat) : O := .l (xs.map fun (i : Nat) => zi i)
theorem on_ok {xs : List Nat} : ∀ o ∈ xs.map (fun (i : Nat) => zi (i : Int)), o.toD.ok 59 = true := fun o ho => by
  obtain ⟨i, _, rfl⟩ := List.mem_map.mp ho
  rfl
theorem pt_ok {ps : List (Nat × Nat)} : ∀ o ∈ ps.map (fun p => O.z (tp p.1 p.2)), o.toD.ok 59 = true := fun o ho => by
  obtain ⟨p, _, rfl⟩ := List.mem_map.mp ho
  exact ok_tp p.1 p.2 58
abbrev nD (xs : List Nat) : D := .lst (xs.map fun (i : Nat) => D.int i)
theorem toD_on (xs : List Nat) : (on xs).toD = nD xs := by
  simp only [O.toD]
  rw [O.toDs_map, List.map_map]
  rfl
theorem clean_on (xs : List Nat) : (on xs).clean = true := by
  simp only [O.clean]
  rw [O.cleans_all, List.all_eq_true]
  intro o ho
  obtain ⟨i, _, rfl⟩ := List.mem_map.mp ho
  rfl
theorem flat_on (xs : List Nat) : (on xs).flat = true := by
  simp only [O.flat]
  rw [List.all_eq_true]
  intro o ho
  obtain ⟨i, _, rfl⟩ := List.mem_map.mp ho
  rfl
theorem mem_nD (i : Nat) (xs : List Nat) : cmpop .mem (.int i) (nD xs) = some (decide (i ∈ xs)) := by
  have h2 : (nD xs).ok 60 = true := by
    simp only [D.ok, List.all_eq_true]
    intro d hd
    obtain ⟨a, _, rfl⟩ := List.mem_map.mp hd
    rfl
  have h1 : (D.int i).ok 60 = true := rfl
  simp only [cmpop, h1, h2, Bool.and_self, if_true]
  congr 1
  rw [Bool.eq_iff_iff, List.any_eq_true, decide_eq_true_eq]
  constructor
  · rintro ⟨d, hd, q⟩
    obtain ⟨a, ha, rfl⟩ := List.mem_map.mp hd
    rw [eqv_int] at q
    simp at q
    have q : a = i := by omega
    rw [← q]; exact ha
  · intro h
    exact ⟨.int i, List.mem_map.mpr ⟨i, h, rfl⟩, by rw [eqv_int]; simp⟩
theorem nmem_nD (i : Nat) (xs : List Nat) : cmpop .nmem (.int i) (nD xs) = some (!decide (i ∈ xs)) := by
  have := mem_nD i xs
  have h2 : (nD xs).ok 60 = true := by
    simp only [D.ok, List.all_eq_true]
    intro d hd
    obtain ⟨a, _, rfl⟩ := List.mem_map.mp hd
    rfl
  have h1 : (D.int i).ok 60 = true := rfl
  simp only [cmpop, h1, h2, Bool.and_self, if_true] at this ⊢
  rw [Option.some.inj this]
/-- .. of a slot, owned or not -/
def SeeN (e : RF.Env) (i : Nat) (xs : List Nat) : Prop := ∃ o, getE e i = some o ∧ o.toD = nD xs ∧ o.flat = true
theorem SeeN.z {e : RF.Env} {i : Nat} {xs : List Nat} (h : getE e i = some (.z (nD xs))) : SeeN e i xs := ⟨_, h, rfl, rfl⟩
theorem SeeN.l {e : RF.Env} {i : Nat} {xs : List Nat} (h : getE e i = some (on xs)) : SeeN e i xs := ⟨_, h, toD_on xs, flat_on xs⟩
theorem SeeN.view {e : RF.Env} {i : Nat} {xs : List Nat} {r : RF.R O} (h : SeeN e i xs) : viewE true (.v i) r e = .ok (nD xs) e := by
  obtain ⟨o, h1, h2, h3⟩ := h
  simp only [viewE, h1]
  cases o with
  | z d => simp only [O.toD] at h2; rw [h2]
  | l os => simp only [h3, Bool.and_self, if_true, h2]
  | t os => simp only [h3, Bool.and_self, if_true, h2]
/-- a in / not in the list of a slot -/
theorem SeeN.mem {C : Cfg} {e : RF.Env} {i : Nat} {a : RF.X} {x : Nat} {xs : List Nat} (h : SeeN e i xs) (ha : evalE C a e = .ok (zi x) e) : evalE C (.cmp .mem a (.v i)) e = .ok (zb (decide (x ∈ xs))) e := by
  rw [evalE, vw ha]
  simp only [RF.R.bind_ok]
  rw [h.view]
  simp only [RF.R.bind_ok]
  show ofOpt ((cmpop .mem (.int x) (nD xs)).map _) e = _
  rw [mem_nD]; rfl
theorem SeeN.nmem {C : Cfg} {e : RF.Env} {i : Nat} {a : RF.X} {x : Nat} {xs : List Nat} (h : SeeN e i xs) (ha : evalE C a e = .ok (zi x) e) : evalE C (.cmp .nmem a (.v i)) e = .ok (zb (!decide (x ∈ xs))) e := by
  rw [evalE, vw ha]
  simp only [RF.R.bind_ok]
  rw [h.view]
  simp only [RF.R.bind_ok]
  show ofOpt ((cmpop .nmem (.int x) (nD xs)).map _) e = _
  rw [nmem_nD]; rfl
theorem atI_nD {xs : List Nat} {j : Nat} (h : j < xs.length) : L2.atI (xs.map fun (i : Nat) => D.int i) (j : Int) = some (.int (xs[j]'h : Nat)) := by
  rw [atI_nat, List.getElem?_map, List.getElem?_eq_getElem h]; rfl
theorem SeeN.ix {C : Cfg} {e : RF.Env} {i : Nat} {b : RF.X} {xs : List Nat} {j : Nat} (h : SeeN e i xs) (hp : pureX b = true) (hb : evalE C b e = .ok (zi j) e) (hj : j < xs.length) : evalE C (.ix (.v i) b) e = .ok (zi (xs[j]'hj : Nat)) e := by
  rw [evalE, hp, h.view]
  simp only [RF.R.bind_ok, hb, atI_nD hj]
  rfl
theorem SeeN.len {C : Cfg} {e : RF.Env} {i : Nat} {xs : List Nat} (h : SeeN e i xs) : evalE C (.blt .len (.cons (.v i) .nil)) e = .ok (zi xs.length) e := by
  have v : evalVs C (.cons (.v i) .nil) e = .ok [nD xs] e := by
    rw [evalVs]
    simp only [pureXs]
    rw [h.view]
    simp only [RF.R.bind_ok]
    rw [evalVs]
    rfl
  exact blv_ok v (by simp [bltV])
/-- a table of truths in a slot, owned or not -/
theorem ix2z_ok {C : Cfg} {e : RF.Env} {i n t c : Nat} {a b : RF.X} {o : O} {F : Nat → Nat → Bool} (hi : getE e i = some o) (ho : o.toD = (mat n F).toD) (ha : evalE C a e = .ok (zi t) e) (hb : evalE C b e = .ok (zi c) e) (ht : t < n) (hc : c < n) : evalE C (.ix2 i a b) e = .ok (zb (F t c)) e := by
  rw [evalE, hi]
  simp only [ha, RF.R.bind_ok, ho, toD_mat]
  simp only [ix1V, atI_map (fun r => D.lst ((List.range n).map fun o => D.bl (F r o))) ht, hb, RF.R.bind_ok, ix1L, atI_map (fun o => D.bl (F t o)) hc]
  rfl
theorem toD_pt (ps : List (Nat × Nat)) : (ptO ps).toD = .lst (ptD ps) := toD_lz _
theorem mem_pt (P : List (Nat × Nat)) (i j : Nat) : cmpop .mem (tp i j) (.lst (ptD P)) = some (decide ((i, j) ∈ P)) := by
  have h1 : (tp i j).ok 60 = true := ok_tp i j 59
  have h2 : (D.lst (ptD P)).ok 60 = true := by
    simp only [ptD, D.ok, List.all_eq_true]
    intro d hd
    obtain ⟨a, _, rfl⟩ := List.mem_map.mp hd
    exact ok_tp _ _ 58
  simp only [cmpop, h1, h2, Bool.and_self, if_true]
  congr 1
  rw [Bool.eq_iff_iff, List.any_eq_true, decide_eq_true_eq]
  constructor
  · rintro ⟨d, hd, q⟩
    obtain ⟨p, hp, rfl⟩ := List.mem_map.mp hd
    rw [eqv_tp] at q
    simp at q
    rw [← q.1, ← q.2]
    exact hp
  · intro h
    exact ⟨_, List.mem_map.mpr ⟨_, h, rfl⟩, by rw [eqv_tp]; simp⟩
theorem ev_compX {α : Type} {C : Cfg} {elt : X} {t : Tg} {it : It} {cd : Xo} {own : List Nat} {env env1 : Env} (xs : List α) (q : α → D) (p : α → Bool) (f : α → O) (h1 : evalIt C it env = .ok (xs.map q) env1)
    (h2 : ∀ x ∈ xs, ∃ e1, tgE t (.z (q x)) (wipeE env1 own) = some e1 ∧ evalCond C cd e1 = .ok (zb (p x)) e1 ∧ (p x = true → evalE C elt e1 = .ok (f x) e1) ∧ wipeE e1 own = wipeE env1 own)
    (hl : xs.length ≤ 2 ^ 20) : ∃ e', evalE C (.comp elt t it cd own) env = .ok (.l ((xs.filter p).map f)) e' := by
  have go := comp_go (acc := []) h2 (by simpa using hl)
  rw [List.nil_append] at go
  rw [evalE, h1]
  simp only [R.bind_ok, go]
  exact ⟨_, rfl⟩
theorem app_map {α : Type} (f : α → O) (xs ys : List α) : (xs ++ ys).map f = xs.map f ++ ys.map f := List.map_append
end MX
/-! K03: the terms of the law and their fit (printed by genlaw.py). -/
namespace K03
open L2 PySem RF PySem.Spec PyProof.Rows
abbrev f_is_whole : Nat := 0
abbrev f_is_count : Nat := 1
abbrev f_is_below : Nat := 2
abbrev f_is_pair : Nat := 3
abbrev f_reach_of : Nat := 4
abbrev f_is_order_of : Nat := 5
abbrev f_check_order : Nat := 6
abbrev f_is_size : Nat := 7
abbrev f_check_size : Nat := 8
abbrev f_check_case : Nat := 9
abbrev f_check_thing : Nat := 10
abbrev f_stands_before : Nat := 11
abbrev f_all_pairs_of : Nat := 12
abbrev f_all_pairs : Nat := 13
abbrev f_plain_pairs_of : Nat := 14
abbrev f_plain_pairs : Nat := 15
abbrev f_is_lot_of : Nat := 16
abbrev f_upper_lots_of : Nat := 17
abbrev f_running_order : Nat := 18
abbrev f_is_free : Nat := 19
abbrev f_upper_lots : Nat := 20
abbrev f_in_a_row : Nat := 21
abbrev f_closed_up : Nat := 22
abbrev f_row_order_of : Nat := 23
abbrev f_row_order : Nat := 24
abbrev f_grid_order : Nat := 25
abbrev f__law_hash : Nat := 26
abbrev f__law_random : Nat := 27
abbrev f__law_cell : Nat := 28
abbrev f__law_generator : Nat := 29
abbrev f__law_drawn_order : Nat := 30
abbrev f__law_same : Nat := 31
abbrev f__law_call : Nat := 32
abbrev f__law_mark : Nat := 33
abbrev f__law_raised : Nat := 34
abbrev f__law_refused : Nat := 35
abbrev f__law_all_refused : Nat := 36
abbrev f__law_before : Nat := 37
abbrev f__law_all_pairs : Nat := 38
abbrev f__law_uppers : Nat := 39
abbrev f__law_drawn_order_of : Nat := 40
abbrev f__law_wrong_orders : Nat := 41
abbrev f__law_odd_ones : Nat := 42
abbrev f__law_is_kind : Nat := 43
abbrev f__law_in_a_row : Nat := 44
abbrev f__law_grid_right : Nat := 45
abbrev f__law_case_right : Nat := 46
abbrev f_law : Nat := 47
abbrev c_InvalidOrder : Nat := 0
abbrev c_InvalidThing : Nat := 1
abbrev c_InvalidNumber : Nat := 2
abbrev c_InvalidLot : Nat := 3
abbrev c_TooMany : Nat := 4
abbrev k_MOST_THINGS : Nat := 0
/-- is_whole(value) -/
def d_is_whole : Fd := ⟨[false], 1,
    (.cons (.ret (.and (.cons (.isi .int (.v 0)) (.cons (.not (.isi .bool (.v 0))) .nil))))
    .nil)⟩
/-- is_count(value) -/
def d_is_count : Fd := ⟨[false], 1,
    (.cons (.ret (.and (.cons (.call true f_is_whole (.cons (.v 0) .nil)) (.cons (.cmp .ge (.v 0) (.n 0)) .nil))))
    .nil)⟩
/-- is_below(value, bound) -/
def d_is_below : Fd := ⟨[false, false], 2,
    (.cons (.ret (.and (.cons (.call true f_is_count (.cons (.v 0) .nil)) (.cons (.cmp .lt (.v 0) (.v 1)) .nil))))
    .nil)⟩
/-- is_pair(size, value) -/
def d_is_pair : Fd := ⟨[false, false], 2,
    (.cons (.ite (.or (.cons (.not (.isi .tuple (.v 1))) (.cons (.cmp .ne (.blt .len (.cons (.v 1) .nil)) (.n 2)) .nil)))
    (.cons (.ret (.tt false))
    .nil)
    .nil)
    (.cons (.ret (.and (.cons (.call true f_is_below (.cons (.ix (.v 1) (.n 0)) (.cons (.v 0) .nil))) (.cons (.call true f_is_below (.cons (.ix (.v 1) (.n 1)) (.cons (.v 0) .nil))) (.cons (.cmp .ne (.ix (.v 1) (.n 0)) (.ix (.v 1) (.n 1))) .nil)))))
    .nil))⟩
/-- reach_of(size, order, before, other, thing, middle) -/
def d_reach_of : Fd := ⟨[false, false], 6,
    (.cons (.set 2 (.comp (.comp (.cmp .mem (.tup (.cons (.v 4) (.cons (.v 3) .nil))) (.v 1)) (.nm 3) (.rng1 (.v 0)) .none [3]) (.nm 4) (.rng1 (.v 0)) .none [4]))
    (.cons (.for (.nm 5) (.rng1 (.v 0))
    (.cons (.for (.nm 4) (.rng1 (.v 0))
    (.cons (.ite (.ix2 2 (.v 4) (.v 5))
    (.cons (.sto 2 (.v 4) (.comp (.or (.cons (.ix2 2 (.v 4) (.v 3)) (.cons (.ix2 2 (.v 5) (.v 3)) .nil))) (.nm 3) (.rng1 (.v 0)) .none [3]))
    .nil)
    .nil)
    .nil))
    .nil))
    (.cons (.ret (.v 2))
    .nil)))⟩
/-- is_order_of(size, value, pair, at, before, thing) -/
def d_is_order_of : Fd := ⟨[false, false], 6,
    (.cons (.ite (.or (.cons (.not (.isi .list (.v 1))) (.cons (.cmp .ne (.comp (.v 2) (.nm 2) (.seq (.v 1)) (.some (.not (.call true f_is_pair (.cons (.v 0) (.cons (.v 2) .nil))))) [2]) (.lst .nil)) .nil)))
    (.cons (.ret (.tt false))
    .nil)
    .nil)
    (.cons (.ite (.cmp .ne (.comp (.v 3) (.nm 3) (.rng2 (.n 1) (.blt .len (.cons (.v 1) .nil))) (.some (.cmp .ge (.ix (.v 1) (.bin .sub (.v 3) (.n 1))) (.ix (.v 1) (.v 3)))) [3]) (.lst .nil))
    (.cons (.ret (.tt false))
    .nil)
    .nil)
    (.cons (.set 4 (.call true f_reach_of (.cons (.v 0) (.cons (.v 1) .nil))))
    (.cons (.ret (.cmp .eq (.comp (.v 5) (.nm 5) (.rng1 (.v 0)) (.some (.ix2 4 (.v 5) (.v 5))) [5]) (.lst .nil)))
    .nil))))⟩
/-- check_order(size, order) -/
def d_check_order : Fd := ⟨[false, false], 2,
    (.cons (.ite (.not (.call true f_is_order_of (.cons (.v 0) (.cons (.v 1) .nil))))
    (.cons (.raise c_InvalidOrder (.v 1))
    .nil)
    .nil)
    .nil)⟩
/-- is_size(value) -/
def d_is_size : Fd := ⟨[false], 1,
    (.cons (.ret (.and (.cons (.call true f_is_whole (.cons (.v 0) .nil)) (.cons (.cmp2 .le .le (.n 1) (.v 0) (.gk k_MOST_THINGS 12)) .nil))))
    .nil)⟩
/-- check_size(size) -/
def d_check_size : Fd := ⟨[false], 1,
    (.cons (.ite (.not (.call true f_is_size (.cons (.v 0) .nil)))
    (.cons (.raise c_InvalidNumber (.v 0))
    .nil)
    .nil)
    .nil)⟩
/-- check_case(size, order) -/
def d_check_case : Fd := ⟨[false, false], 2,
    (.cons (.expr (.call true f_check_size (.cons (.v 0) .nil)))
    (.cons (.expr (.call true f_check_order (.cons (.v 0) (.cons (.v 1) .nil))))
    .nil))⟩
/-- check_thing(size, thing) -/
def d_check_thing : Fd := ⟨[false, false], 2,
    (.cons (.ite (.not (.call true f_is_below (.cons (.v 1) (.cons (.v 0) .nil))))
    (.cons (.raise c_InvalidThing (.v 1))
    .nil)
    .nil)
    .nil)⟩
/-- stands_before(size, order, thing, other_thing) -/
def d_stands_before : Fd := ⟨[false, false, false, false], 4,
    (.cons (.expr (.call true f_check_case (.cons (.v 0) (.cons (.v 1) .nil))))
    (.cons (.expr (.call true f_check_thing (.cons (.v 0) (.cons (.v 2) .nil))))
    (.cons (.expr (.call true f_check_thing (.cons (.v 0) (.cons (.v 3) .nil))))
    (.cons (.ret (.ix (.ix (.call true f_reach_of (.cons (.v 0) (.cons (.v 1) .nil))) (.v 2)) (.v 3)))
    .nil))))⟩
/-- all_pairs_of(size, order, before, found, thing, other) -/
def d_all_pairs_of : Fd := ⟨[false, false], 6,
    (.cons (.set 2 (.call true f_reach_of (.cons (.v 0) (.cons (.v 1) .nil))))
    (.cons (.set 3 (.lst .nil))
    (.cons (.for (.nm 4) (.rng1 (.v 0))
    (.cons (.set 3 (.bin .add (.v 3) (.comp (.tup (.cons (.v 4) (.cons (.v 5) .nil))) (.nm 5) (.rng1 (.v 0)) (.some (.ix2 2 (.v 4) (.v 5))) [5])))
    .nil))
    (.cons (.ret (.v 3))
    .nil))))⟩
/-- all_pairs(size, order) -/
def d_all_pairs : Fd := ⟨[false, false], 2,
    (.cons (.expr (.call true f_check_case (.cons (.v 0) (.cons (.v 1) .nil))))
    (.cons (.ret (.call true f_all_pairs_of (.cons (.v 0) (.cons (.v 1) .nil))))
    .nil))⟩
/-- plain_pairs_of(size, order, before, found, thing, other, middle) -/
def d_plain_pairs_of : Fd := ⟨[false, false], 7,
    (.cons (.set 2 (.call true f_reach_of (.cons (.v 0) (.cons (.v 1) .nil))))
    (.cons (.set 3 (.lst .nil))
    (.cons (.for (.tp [4, 5]) (.seq (.call true f_all_pairs_of (.cons (.v 0) (.cons (.v 1) .nil))))
    (.cons (.ite (.cmp .eq (.comp (.v 6) (.nm 6) (.rng1 (.v 0)) (.some (.and (.cons (.ix2 2 (.v 4) (.v 6)) (.cons (.ix2 2 (.v 6) (.v 5)) .nil)))) [6]) (.lst .nil))
    (.cons (.app 3 (.tup (.cons (.v 4) (.cons (.v 5) .nil))))
    .nil)
    .nil)
    .nil))
    (.cons (.ret (.v 3))
    .nil))))⟩
/-- plain_pairs(size, order) -/
def d_plain_pairs : Fd := ⟨[false, false], 2,
    (.cons (.expr (.call true f_check_case (.cons (.v 0) (.cons (.v 1) .nil))))
    (.cons (.ret (.call true f_plain_pairs_of (.cons (.v 0) (.cons (.v 1) .nil))))
    .nil))⟩
/-- is_lot_of(size, value, thing, at) -/
def d_is_lot_of : Fd := ⟨[false, false], 4,
    (.cons (.ite (.or (.cons (.not (.isi .list (.v 1))) (.cons (.cmp .ne (.comp (.v 2) (.nm 2) (.seq (.v 1)) (.some (.not (.call true f_is_below (.cons (.v 2) (.cons (.v 0) .nil))))) [2]) (.lst .nil)) .nil)))
    (.cons (.ret (.tt false))
    .nil)
    .nil)
    (.cons (.ret (.cmp .eq (.comp (.v 3) (.nm 3) (.rng2 (.n 1) (.blt .len (.cons (.v 1) .nil))) (.some (.cmp .ge (.ix (.v 1) (.bin .sub (.v 3) (.n 1))) (.ix (.v 1) (.v 3)))) [3]) (.lst .nil)))
    .nil))⟩
/-- upper_lots_of(size, order, before, found, thing, behind, other, more, lot) -/
def d_upper_lots_of : Fd := ⟨[false, false], 9,
    (.cons (.set 2 (.call true f_reach_of (.cons (.v 0) (.cons (.v 1) .nil))))
    (.cons (.set 3 (.lst (.cons (.lst .nil) .nil)))
    (.cons (.for (.nm 4) (.seq (.rev (.call true f_running_order (.cons (.v 0) (.cons (.v 1) .nil)))))
    (.cons (.set 5 (.comp (.v 6) (.nm 6) (.rng1 (.v 0)) (.some (.ix2 2 (.v 4) (.v 6))) [6]))
    (.cons (.set 7 (.comp (.bin .add (.v 8) (.lst (.cons (.v 4) .nil))) (.nm 8) (.seq (.v 3)) (.some (.cmp .eq (.comp (.v 6) (.nm 6) (.seq (.v 5)) (.some (.cmp .nmem (.v 6) (.v 8))) [6]) (.lst .nil))) [8]))
    (.cons (.set 3 (.bin .add (.v 3) (.v 7)))
    .nil))))
    (.cons (.ret (.blt .sorted (.cons (.comp (.blt .sorted (.cons (.v 8) .nil)) (.nm 8) (.seq (.v 3)) .none [8]) .nil)))
    .nil))))⟩
/-- running_order(size, order, before, found, _, able, thing) -/
def d_running_order : Fd := ⟨[false, false], 7,
    (.cons (.set 2 (.call true f_reach_of (.cons (.v 0) (.cons (.v 1) .nil))))
    (.cons (.set 3 (.lst .nil))
    (.cons (.for (.nm 4) (.rng1 (.v 0))
    (.cons (.set 5 (.comp (.v 6) (.nm 6) (.rng1 (.v 0)) (.some (.and (.cons (.cmp .nmem (.v 6) (.v 3)) (.cons (.call true f_is_free (.cons (.v 2) (.cons (.v 3) (.cons (.v 6) .nil)))) .nil)))) [6]))
    (.cons (.app 3 (.ix (.v 5) (.n 0)))
    .nil)))
    (.cons (.ret (.v 3))
    .nil))))⟩
/-- is_free(before, found, thing, other) -/
def d_is_free : Fd := ⟨[false, false, false], 4,
    (.cons (.ret (.cmp .eq (.comp (.v 3) (.nm 3) (.rng1 (.blt .len (.cons (.v 0) .nil))) (.some (.and (.cons (.ix2 0 (.v 3) (.v 2)) (.cons (.cmp .nmem (.v 3) (.v 1)) .nil)))) [3]) (.lst .nil)))
    .nil)⟩
/-- upper_lots(size, order) -/
def d_upper_lots : Fd := ⟨[false, false], 2,
    (.cons (.expr (.call true f_check_case (.cons (.v 0) (.cons (.v 1) .nil))))
    (.cons (.ret (.call true f_upper_lots_of (.cons (.v 0) (.cons (.v 1) .nil))))
    .nil))⟩
/-- in_a_row(size, order) -/
def d_in_a_row : Fd := ⟨[false, false], 2,
    (.cons (.expr (.call true f_check_case (.cons (.v 0) (.cons (.v 1) .nil))))
    (.cons (.ret (.call true f_running_order (.cons (.v 0) (.cons (.v 1) .nil))))
    .nil))⟩
/-- closed_up(size, order, lot, before, thing, other) -/
def d_closed_up : Fd := ⟨[false, false, false], 6,
    (.cons (.expr (.call true f_check_case (.cons (.v 0) (.cons (.v 1) .nil))))
    (.cons (.ite (.not (.call true f_is_lot_of (.cons (.v 0) (.cons (.v 2) .nil))))
    (.cons (.raise c_InvalidLot (.v 2))
    .nil)
    .nil)
    (.cons (.set 3 (.call true f_reach_of (.cons (.v 0) (.cons (.v 1) .nil))))
    (.cons (.ret (.comp (.v 4) (.nm 4) (.rng1 (.v 0)) (.some (.or (.cons (.cmp .mem (.v 4) (.v 2)) (.cons (.cmp .ne (.comp (.v 5) (.nm 5) (.seq (.v 2)) (.some (.ix2 3 (.v 5) (.v 4))) [5]) (.lst .nil)) .nil)))) [4]))
    .nil))))⟩
/-- row_order_of(size, thing) -/
def d_row_order_of : Fd := ⟨[false], 2,
    (.cons (.ret (.comp (.tup (.cons (.v 1) (.cons (.bin .add (.v 1) (.n 1)) .nil))) (.nm 1) (.rng1 (.bin .sub (.v 0) (.n 1))) .none [1]))
    .nil)⟩
/-- row_order(size) -/
def d_row_order : Fd := ⟨[false], 1,
    (.cons (.expr (.call true f_check_size (.cons (.v 0) .nil)))
    (.cons (.ret (.call true f_row_order_of (.cons (.v 0) .nil)))
    .nil))⟩
/-- grid_order(rows, columns, found, row, column, thing) -/
def d_grid_order : Fd := ⟨[false, false], 6,
    (.cons (.ite (.not (.call true f_is_size (.cons (.v 0) .nil)))
    (.cons (.raise c_InvalidNumber (.v 0))
    .nil)
    .nil)
    (.cons (.ite (.not (.call true f_is_size (.cons (.v 1) .nil)))
    (.cons (.raise c_InvalidNumber (.v 1))
    .nil)
    .nil)
    (.cons (.ite (.cmp .gt (.bin .mul (.v 0) (.v 1)) (.gk k_MOST_THINGS 12))
    (.cons (.raise c_TooMany (.gk k_MOST_THINGS 12))
    .nil)
    .nil)
    (.cons (.set 2 (.lst .nil))
    (.cons (.for (.nm 3) (.rng1 (.v 0))
    (.cons (.for (.nm 4) (.rng1 (.v 1))
    (.cons (.set 5 (.bin .add (.bin .mul (.v 3) (.v 1)) (.v 4)))
    (.cons (.set 2 (.bin .add (.v 2) (.ite (.cmp .lt (.bin .add (.v 4) (.n 1)) (.v 1)) (.lst (.cons (.tup (.cons (.v 5) (.cons (.bin .add (.v 5) (.n 1)) .nil))) .nil)) (.lst .nil))))
    (.cons (.set 2 (.bin .add (.v 2) (.ite (.cmp .lt (.bin .add (.v 3) (.n 1)) (.v 0)) (.lst (.cons (.tup (.cons (.v 5) (.cons (.bin .add (.v 5) (.v 1)) .nil))) .nil)) (.lst .nil))))
    .nil))))
    .nil))
    (.cons (.ret (.v 2))
    .nil))))))⟩
/-- _law_hash(seed, index, mixed) -/
def d__law_hash : Fd := ⟨[false, false], 3,
    (.cons (.set 2 (.bin .mod (.blt .int (.cons (.bin .add (.bin .add (.bin .add (.bin .mul (.v 0) (.n 1140671)) (.bin .mul (.bin .mul (.n 27644437) (.v 1)) (.v 1))) (.bin .mul (.n 131) (.v 1))) (.n 19)) .nil)) (.n 2147483629)))
    (.cons (.set 2 (.bin .mod (.blt .int (.cons (.bin .add (.bin .add (.bin .mul (.v 2) (.v 2)) (.bin .mul (.n 62089) (.v 1))) (.n 32416187)) .nil)) (.n 2147483587)))
    (.cons (.ret (.bin .mod (.blt .int (.cons (.bin .mul (.v 2) (.n 48271)) .nil)) (.n 2147483647)))
    .nil)))⟩
/-- _law_random(generator, bound, drawn, turn) -/
def d__law_random : Fd := ⟨[true, false], 4,
    (.cons (.ite (.cmp .gt (.ix (.v 0) (.n 0)) (.n 0))
    (.cons (.set 2 (.bin .mod (.blt .int (.cons (.ix (.v 0) (.n 0)) .nil)) (.v 1)))
    (.cons (.sto 0 (.n 0) (.bin .fdiv (.ix (.v 0) (.n 0)) (.v 1)))
    (.cons (.ret (.v 2))
    .nil)))
    .nil)
    (.cons (.set 2 (.n 0))
    (.cons (.for (.nm 3) (.rng1 (.bin .add (.n 1) (.bin .fdiv (.bits (.v 1)) (.n 30))))
    (.cons (.sto 0 (.n 2) (.bin .add (.ix (.v 0) (.n 2)) (.n 1)))
    (.cons (.set 2 (.bin .add (.bin .mul (.v 2) (.n 2147483587)) (.call true f__law_hash (.cons (.ix (.v 0) (.n 1)) (.cons (.ix (.v 0) (.n 2)) .nil)))))
    .nil)))
    (.cons (.ret (.bin .mod (.blt .int (.cons (.v 2) .nil)) (.v 1)))
    .nil))))⟩
/-- _law_cell(script, index) -/
def d__law_cell : Fd := ⟨[false, false], 2,
    (.cons (.ite (.cmp .lt (.v 1) (.blt .len (.cons (.v 0) .nil)))
    (.cons (.ret (.ix (.v 0) (.v 1)))
    .nil)
    .nil)
    (.cons (.ret (.bin .mod (.blt .sum (.cons (.sl (.v 0) .none (.some (.n 1))) .nil)) (.n 1000003)))
    .nil))⟩
/-- _law_generator(script, index, seed) -/
def d__law_generator : Fd := ⟨[false, false], 3,
    (.cons (.set 2 (.call true f__law_cell (.cons (.v 0) (.cons (.v 1) .nil))))
    (.cons (.ret (.lst (.cons (.bin .mod (.blt .int (.cons (.blt .max2 (.cons (.bin .sub (.v 2) (.bin .pow (.n 10) (.n 18))) (.cons (.n 0) .nil))) .nil)) (.bin .pow (.bin .pow (.n 10) (.n 60)) (.n 10))) (.cons (.bin .mod (.blt .int (.cons (.v 2) .nil)) (.n 2147483647)) (.cons (.bin .mul (.n 1000) (.v 1)) .nil)))))
    .nil))⟩
/-- _law_drawn_order(generator, told_ones, left, found) -/
def d__law_drawn_order : Fd := ⟨[true, false], 4,
    (.cons (.par [2, 3] (.cons (.blt .list (.cons (.v 1) .nil)) (.cons (.lst .nil) .nil)))
    (.cons (.whl (.cmp .ne (.v 2) (.lst .nil))
    (.cons (.app 3 (.popAt 2 (.call false f__law_random (.cons (.v 0) (.cons (.blt .len (.cons (.v 2) .nil)) .nil)))))
    .nil))
    (.cons (.ret (.v 3))
    .nil)))⟩
/-- _law_same(told, due, at) -/
def d__law_same : Fd := ⟨[false, false], 3,
    (.cons (.ite (.or (.cons (.cmp .is (.v 1) .non) (.cons (.cmp .is (.v 1) (.tt true)) (.cons (.cmp .is (.v 1) (.tt false)) .nil))))
    (.cons (.ret (.ite (.cmp .is (.v 1) .non) (.cmp .is (.v 0) .non) (.ite (.cmp .is (.v 1) (.tt true)) (.cmp .is (.v 0) (.tt true)) (.cmp .is (.v 0) (.tt false)))))
    .nil)
    .nil)
    (.cons (.ite (.isi .lt (.v 1))
    (.cons (.ite (.or (.cons (.and (.cons (.not (.isi .list (.v 0))) (.cons (.isi .list (.v 1)) .nil))) (.cons (.and (.cons (.not (.isi .tuple (.v 0))) (.cons (.isi .tuple (.v 1)) .nil))) .nil)))
    (.cons (.ret (.tt false))
    .nil)
    .nil)
    (.cons (.ret (.and (.cons (.cmp .eq (.blt .len (.cons (.v 0) .nil)) (.blt .len (.cons (.v 1) .nil))) (.cons (.cmp .eq (.comp (.v 2) (.nm 2) (.rng1 (.blt .len (.cons (.v 1) .nil))) (.some (.not (.call true f__law_same (.cons (.ix (.v 0) (.v 2)) (.cons (.ix (.v 1) (.v 2)) .nil))))) [2]) (.lst .nil)) .nil))))
    .nil))
    .nil)
    (.cons (.ite (.isi .int (.v 1))
    (.cons (.ret (.and (.cons (.isi .int (.v 0)) (.cons (.not (.isi .bool (.v 0))) (.cons (.cmp .eq (.v 0) (.v 1)) .nil)))))
    .nil)
    .nil)
    (.cons (.ret (.and (.cons (.isi .str (.v 0)) (.cons (.cmp .eq (.v 0) (.v 1)) .nil))))
    .nil))))⟩
/-- _law_call(deed, args) -/
def d__law_call : Fd := ⟨[false, false], 2,
    (.cons (.ite (.cmp .eq (.blt .len (.cons (.v 1) .nil)) (.n 1))
    (.cons (.ret (.callv 0 (.cons (.ix (.v 1) (.n 0)) .nil)))
    .nil)
    .nil)
    (.cons (.ite (.cmp .eq (.blt .len (.cons (.v 1) .nil)) (.n 2))
    (.cons (.ret (.callv 0 (.cons (.ix (.v 1) (.n 0)) (.cons (.ix (.v 1) (.n 1)) .nil))))
    .nil)
    .nil)
    (.cons (.ite (.cmp .eq (.blt .len (.cons (.v 1) .nil)) (.n 3))
    (.cons (.ret (.callv 0 (.cons (.ix (.v 1) (.n 0)) (.cons (.ix (.v 1) (.n 1)) (.cons (.ix (.v 1) (.n 2)) .nil)))))
    .nil)
    .nil)
    (.cons (.ite (.cmp .eq (.blt .len (.cons (.v 1) .nil)) (.n 4))
    (.cons (.ret (.callv 0 (.cons (.ix (.v 1) (.n 0)) (.cons (.ix (.v 1) (.n 1)) (.cons (.ix (.v 1) (.n 2)) (.cons (.ix (.v 1) (.n 3)) .nil))))))
    .nil)
    .nil)
    (.cons (.ite (.cmp .eq (.blt .len (.cons (.v 1) .nil)) (.n 5))
    (.cons (.ret (.callv 0 (.cons (.ix (.v 1) (.n 0)) (.cons (.ix (.v 1) (.n 1)) (.cons (.ix (.v 1) (.n 2)) (.cons (.ix (.v 1) (.n 3)) (.cons (.ix (.v 1) (.n 4)) .nil)))))))
    .nil)
    .nil)
    (.cons (.ret (.callv 0 (.cons (.ix (.v 1) (.n 0)) (.cons (.ix (.v 1) (.n 1)) (.cons (.ix (.v 1) (.n 2)) (.cons (.ix (.v 1) (.n 3)) (.cons (.ix (.v 1) (.n 4)) (.cons (.ix (.v 1) (.n 5)) .nil))))))))
    .nil))))))⟩
/-- _law_mark(deed, args, mark, e) -/
def d__law_mark : Fd := ⟨[false, false], 4,
    (.cons (.set 2 .non)
    (.cons (.tryE 3 2 (.call true f__law_call (.cons (.v 0) (.cons (.v 1) .nil))))
    (.cons (.ret (.v 2))
    .nil)))⟩
/-- _law_raised(deed, args, kind, value, mark) -/
def d__law_raised : Fd := ⟨[false, false, false, false], 5,
    (.cons (.set 4 (.call true f__law_mark (.cons (.v 0) (.cons (.v 1) .nil))))
    (.cons (.ret (.and (.cons (.cmp .isn (.v 4) .non) (.cons (.call true f__law_is_kind (.cons (.v 4) (.cons (.v 2) .nil))) (.cons (.call true f__law_same (.cons (.attr 4) (.cons (.v 3) .nil))) .nil)))))
    .nil))⟩
/-- _law_refused(deed, args, at, kind, wrong, blank, thing) -/
def d__law_refused : Fd := ⟨[false, false, false, false, false], 7,
    (.cons (.set 5 (.bin .add (.bin .add (.sl (.v 1) .none (.some (.v 2))) (.lst (.cons (.v 4) .nil))) (.comp .non (.nm 6) (.seq (.sl (.v 1) (.some (.bin .add (.v 2) (.n 1))) .none)) .none [6])))
    (.cons (.ite (.not (.call true f__law_raised (.cons (.v 0) (.cons (.v 5) (.cons (.v 3) (.cons (.v 4) .nil))))))
    (.cons (.ret (.tt false))
    .nil)
    .nil)
    (.cons (.ret (.call true f__law_raised (.cons (.v 0) (.cons (.bin .add (.bin .add (.sl (.v 1) .none (.some (.v 2))) (.lst (.cons (.v 4) .nil))) (.sl (.v 1) (.some (.bin .add (.v 2) (.n 1))) .none)) (.cons (.v 3) (.cons (.v 4) .nil))))))
    .nil)))⟩
/-- _law_all_refused(deeds, at, kind, wrongs, deed, args, wrong) -/
def d__law_all_refused : Fd := ⟨[false, false, false, false], 7,
    (.cons (.for (.tp [4, 5]) (.seq (.v 0))
    (.cons (.ite (.cmp .ne (.comp (.v 6) (.nm 6) (.seq (.v 3)) (.some (.not (.call true f__law_refused (.cons (.v 4) (.cons (.v 5) (.cons (.v 1) (.cons (.v 2) (.cons (.v 6) .nil)))))))) [6]) (.lst .nil))
    (.cons (.ret (.tt false))
    .nil)
    .nil)
    .nil))
    (.cons (.ret (.tt true))
    .nil))⟩
/-- _law_before(size, order, found, other, one, turn, third) -/
def d__law_before : Fd := ⟨[false, false], 7,
    (.cons (.set 2 (.comp (.comp (.cmp .mem (.tup (.cons (.v 4) (.cons (.v 3) .nil))) (.v 1)) (.nm 3) (.rng1 (.v 0)) .none [3]) (.nm 4) (.rng1 (.v 0)) .none [4]))
    (.cons (.for (.nm 5) (.rng1 (.v 0))
    (.cons (.set 2 (.comp (.comp (.or (.cons (.ix2 2 (.v 4) (.v 3)) (.cons (.cmp .ne (.comp (.v 6) (.nm 6) (.rng1 (.v 0)) (.some (.and (.cons (.ix2 2 (.v 4) (.v 6)) (.cons (.ix2 2 (.v 6) (.v 3)) .nil)))) [6]) (.lst .nil)) .nil))) (.nm 3) (.rng1 (.v 0)) .none [3]) (.nm 4) (.rng1 (.v 0)) .none [4]))
    .nil))
    (.cons (.ret (.v 2))
    .nil)))⟩
/-- _law_all_pairs(size, order, before, other, one) -/
def d__law_all_pairs : Fd := ⟨[false, false], 5,
    (.cons (.set 2 (.call true f__law_before (.cons (.v 0) (.cons (.v 1) .nil))))
    (.cons (.ret (.blt .sum (.cons (.comp (.comp (.tup (.cons (.v 4) (.cons (.v 3) .nil))) (.nm 3) (.rng1 (.v 0)) (.some (.ix2 2 (.v 4) (.v 3))) [3]) (.nm 4) (.rng1 (.v 0)) .none [4]) (.cons (.lst .nil) .nil))))
    .nil))⟩
/-- _law_uppers(size, order, lots, one, lot, pair) -/
def d__law_uppers : Fd := ⟨[false, false], 6,
    (.cons (.set 2 (.lst (.cons (.lst .nil) .nil)))
    (.cons (.for (.nm 3) (.rng1 (.v 0))
    (.cons (.set 2 (.bin .add (.v 2) (.comp (.bin .add (.v 4) (.lst (.cons (.v 3) .nil))) (.nm 4) (.seq (.v 2)) .none [4])))
    .nil))
    (.cons (.ret (.comp (.v 4) (.nm 4) (.seq (.v 2)) (.some (.cmp .eq (.comp (.v 5) (.nm 5) (.seq (.v 1)) (.some (.and (.cons (.cmp .mem (.ix (.v 5) (.n 0)) (.v 4)) (.cons (.cmp .nmem (.ix (.v 5) (.n 1)) (.v 4)) .nil)))) [5]) (.lst .nil))) [4]))
    .nil)))⟩
/-- _law_drawn_order_of(generator, size, way, told, pairs, at, later) -/
def d__law_drawn_order_of : Fd := ⟨[true, false], 7,
    (.cons (.par [2, 3] (.cons (.call false f__law_random (.cons (.v 0) (.cons (.n 5) .nil))) (.cons (.call false f__law_drawn_order (.cons (.v 0) (.cons (.lrange (.rng1 (.v 1))) .nil))) .nil)))
    (.cons (.set 4 (.lst .nil))
    (.cons (.for (.nm 5) (.rng1 (.v 1))
    (.cons (.for (.nm 6) (.rng2 (.bin .add (.v 5) (.n 1)) (.v 1))
    (.cons (.ite (.or (.cons (.and (.cons (.cmp .eq (.v 2) (.n 0)) (.cons (.cmp .eq (.v 6) (.bin .add (.v 5) (.n 1))) .nil))) (.cons (.and (.cons (.cmp .eq (.v 2) (.n 1)) (.cons (.cmp .eq (.v 5) (.n 0)) .nil))) (.cons (.and (.cons (.cmp .eq (.v 2) (.n 2)) (.cons (.cmp .eq (.call false f__law_random (.cons (.v 0) (.cons (.n 2) .nil))) (.n 0)) .nil))) (.cons (.and (.cons (.cmp .eq (.v 2) (.n 3)) (.cons (.cmp .eq (.call false f__law_random (.cons (.v 0) (.cons (.n 4) .nil))) (.n 0)) .nil))) .nil)))))
    (.cons (.app 4 (.tup (.cons (.ix (.v 3) (.v 5)) (.cons (.ix (.v 3) (.v 6)) .nil))))
    .nil)
    .nil)
    .nil))
    .nil))
    (.cons (.ret (.blt .sorted (.cons (.v 4) .nil)))
    .nil))))⟩
/-- _law_wrong_orders(size, order, found) -/
def d__law_wrong_orders : Fd := ⟨[false, false], 3,
    (.cons (.set 2 (.lst (.cons .non (.cons (.n 0) (.cons (.s ⟨#[111, 114, 100, 101, 114]⟩) (.cons (.tup .nil) (.cons (.blt .tuple (.cons (.v 1) .nil)) (.cons (.lst (.cons .non .nil)) (.cons (.lst (.cons (.tup (.cons (.n 0) (.cons (.n 0) .nil))) .nil)) (.cons (.lst (.cons (.tup (.cons (.n 0) (.cons (.v 0) .nil))) .nil)) (.cons (.lst (.cons (.tup (.cons (.bin .sub (.n 0) (.n 1)) (.cons (.n 0) .nil))) .nil)) (.cons (.lst (.cons (.tup (.cons (.n 0) .nil)) .nil)) (.cons (.lst (.cons (.lst (.cons (.n 0) (.cons (.n 1) .nil))) .nil)) (.cons (.lst (.cons (.tup (.cons (.tt true) (.cons (.n 0) .nil))) .nil)) (.cons (.lst (.cons (.tup (.cons (.s ⟨#[48]⟩) (.cons (.n 1) .nil))) .nil)) (.cons (.lst (.cons (.tup (.cons (.n 0) (.cons (.n 1) (.cons (.n 2) .nil)))) .nil)) .nil))))))))))))))))
    (.cons (.ret (.bin .add (.bin .add (.v 2) (.ite (.cmp .ne (.v 1) (.lst .nil)) (.lst (.cons (.bin .add (.v 1) (.sl (.v 1) (.some (.neg (.n 1))) .none)) .nil)) (.lst .nil))) (.ite (.cmp .gt (.v 0) (.n 1)) (.lst (.cons (.lst (.cons (.tup (.cons (.n 0) (.cons (.n 1) .nil))) (.cons (.tup (.cons (.n 1) (.cons (.n 0) .nil))) .nil))) (.cons (.lst (.cons (.tup (.cons (.n 1) (.cons (.n 0) .nil))) (.cons (.tup (.cons (.n 0) (.cons (.n 1) .nil))) .nil))) .nil))) (.lst .nil))))
    .nil))⟩
/-- _law_odd_ones(size) -/
def d__law_odd_ones : Fd := ⟨[false], 1,
    (.cons (.ret (.lst (.cons .non (.cons (.bin .sub (.n 0) (.n 1)) (.cons (.v 0) (.cons (.tt true) (.cons (.s ⟨#[48]⟩) (.cons (.lst (.cons (.n 0) .nil)) (.cons (.tup (.cons (.n 0) .nil)) .nil)))))))))
    .nil)⟩
/-- _law_is_kind(mark, kind) -/
def d__law_is_kind : Fd := ⟨[false, false], 2,
    (.cons (.ite (.cmp .eq (.v 1) (.s ⟨#[73, 110, 118, 97, 108, 105, 100, 76, 111, 116]⟩))
    (.cons (.ret (.isc c_InvalidLot 0))
    .nil)
    .nil)
    (.cons (.ite (.cmp .eq (.v 1) (.s ⟨#[73, 110, 118, 97, 108, 105, 100, 78, 117, 109, 98, 101, 114]⟩))
    (.cons (.ret (.isc c_InvalidNumber 0))
    .nil)
    .nil)
    (.cons (.ite (.cmp .eq (.v 1) (.s ⟨#[73, 110, 118, 97, 108, 105, 100, 79, 114, 100, 101, 114]⟩))
    (.cons (.ret (.isc c_InvalidOrder 0))
    .nil)
    .nil)
    (.cons (.ite (.cmp .eq (.v 1) (.s ⟨#[73, 110, 118, 97, 108, 105, 100, 84, 104, 105, 110, 103]⟩))
    (.cons (.ret (.isc c_InvalidThing 0))
    .nil)
    .nil)
    (.cons (.ite (.cmp .eq (.v 1) (.s ⟨#[84, 111, 111, 77, 97, 110, 121]⟩))
    (.cons (.ret (.isc c_TooMany 0))
    .nil)
    .nil)
    (.cons (.ret (.tt false))
    .nil))))))⟩
/-- _law_in_a_row(size, order, before, found, turn, able, one, other) -/
def d__law_in_a_row : Fd := ⟨[false, false], 8,
    (.cons (.asg [2, 3] (.tup (.cons (.call true f__law_before (.cons (.v 0) (.cons (.v 1) .nil))) (.cons (.lst .nil) .nil))))
    (.cons (.for (.nm 4) (.rng1 (.v 0))
    (.cons (.set 5 (.comp (.v 6) (.nm 6) (.rng1 (.v 0)) (.some (.and (.cons (.cmp .nmem (.v 6) (.v 3)) (.cons (.cmp .eq (.comp (.v 7) (.nm 7) (.rng1 (.v 0)) (.some (.and (.cons (.ix2 2 (.v 7) (.v 6)) (.cons (.cmp .nmem (.v 7) (.v 3)) .nil)))) [7]) (.lst .nil)) .nil)))) [6]))
    (.cons (.app 3 (.blt .min1 (.cons (.v 5) .nil)))
    .nil)))
    (.cons (.ret (.v 3))
    .nil)))⟩
/-- _law_grid_right(generator, rows, columns, due, at) -/
def d__law_grid_right : Fd := ⟨[true], 5,
    (.cons (.par [1, 2] (.cons (.bin .add (.n 1) (.call false f__law_random (.cons (.v 0) (.cons (.n 4) .nil)))) (.cons (.bin .add (.n 1) (.call false f__law_random (.cons (.v 0) (.cons (.n 4) .nil)))) .nil)))
    (.cons (.ite (.cmp .gt (.bin .mul (.v 1) (.v 2)) (.n 12))
    (.cons (.ret (.call true f__law_raised (.cons (.g f_grid_order) (.cons (.lst (.cons (.v 1) (.cons (.v 2) .nil))) (.cons (.s ⟨#[84, 111, 111, 77, 97, 110, 121]⟩) (.cons (.n 12) .nil))))))
    .nil)
    .nil)
    (.cons (.set 3 (.lst .nil))
    (.cons (.for (.nm 4) (.rng1 (.bin .mul (.v 1) (.v 2)))
    (.cons (.set 3 (.bin .add (.bin .add (.v 3) (.ite (.cmp .ne (.bin .mod (.blt .int (.cons (.bin .add (.v 4) (.n 1)) .nil)) (.v 2)) (.n 0)) (.lst (.cons (.tup (.cons (.v 4) (.cons (.bin .add (.v 4) (.n 1)) .nil))) .nil)) (.lst .nil))) (.ite (.cmp .lt (.bin .add (.v 4) (.v 2)) (.bin .mul (.v 1) (.v 2))) (.lst (.cons (.tup (.cons (.v 4) (.cons (.bin .add (.v 4) (.v 2)) .nil))) .nil)) (.lst .nil))))
    .nil))
    (.cons (.ret (.call true f__law_same (.cons (.lst (.cons (.call true f_grid_order (.cons (.v 1) (.cons (.v 2) .nil))) (.cons (.callk f_grid_order .nil (.cons (.v 2) (.cons (.v 1) .nil)) [1, 0]) .nil))) (.cons (.lst (.cons (.v 3) (.cons (.v 3) .nil))) .nil))))
    .nil)))))⟩
/-- _law_case_right(script, index, generator, size, order, kept, before, pairs, plain, pair, third, due, told, part, one, other, lot, closed, thing, low, answers, at, deeds, sizes) -/
def d__law_case_right : Fd := ⟨[false, false], 24,
    (.cons (.set 2 (.call true f__law_generator (.cons (.v 0) (.cons (.v 1) .nil))))
    (.cons (.set 3 (.bin .add (.n 1) (.call false f__law_random (.cons (.v 2) (.cons (.ix (.lst (.cons (.n 8) (.cons (.n 5) (.cons (.n 3) .nil)))) (.v 1)) .nil)))))
    (.cons (.set 4 (.call false f__law_drawn_order_of (.cons (.v 2) (.cons (.v 3) .nil))))
    (.cons (.asg [5, 6, 7] (.tup (.cons (.blt .repr (.cons (.v 4) .nil)) (.cons (.call true f__law_before (.cons (.v 3) (.cons (.v 4) .nil))) (.cons (.call true f__law_all_pairs (.cons (.v 3) (.cons (.v 4) .nil))) .nil)))))
    (.cons (.set 8 (.comp (.v 9) (.nm 9) (.seq (.v 7)) (.some (.cmp .eq (.comp (.v 10) (.nm 10) (.rng1 (.v 3)) (.some (.and (.cons (.ix2 6 (.ix (.v 9) (.n 0)) (.v 10)) (.cons (.ix2 6 (.v 10) (.ix (.v 9) (.n 1))) .nil)))) [10]) (.lst .nil))) [9]))
    (.cons (.set 11 (.lst (.cons (.v 7) (.cons (.v 8) (.cons (.blt .sorted (.cons (.call true f__law_uppers (.cons (.v 3) (.cons (.v 4) .nil))) .nil)) (.cons (.call true f__law_in_a_row (.cons (.v 3) (.cons (.v 4) .nil))) .nil))))))
    (.cons (.set 12 (.lst (.cons (.call true f_all_pairs (.cons (.v 3) (.cons (.v 4) .nil))) (.cons (.call true f_plain_pairs (.cons (.v 3) (.cons (.v 4) .nil))) (.cons (.call true f_upper_lots (.cons (.v 3) (.cons (.v 4) .nil))) (.cons (.call true f_in_a_row (.cons (.v 3) (.cons (.v 4) .nil))) .nil))))))
    (.cons (.ite (.not (.call true f__law_same (.cons (.v 12) (.cons (.v 11) .nil))))
    (.cons (.ret (.tt false))
    .nil)
    .nil)
    (.cons (.each 12 13 0)
    (.cons (.ite (.not (.call true f__law_same (.cons (.lst (.cons (.callk f_all_pairs .nil (.cons (.v 4) (.cons (.v 3) .nil)) [1, 0]) (.cons (.callk f_plain_pairs .nil (.cons (.v 4) (.cons (.v 3) .nil)) [1, 0]) (.cons (.callk f_upper_lots .nil (.cons (.v 4) (.cons (.v 3) .nil)) [1, 0]) (.cons (.callk f_in_a_row .nil (.cons (.v 4) (.cons (.v 3) .nil)) [1, 0]) .nil))))) (.cons (.v 11) .nil))))
    (.cons (.ret (.tt false))
    .nil)
    .nil)
    (.cons (.par [14, 15] (.cons (.call false f__law_random (.cons (.v 2) (.cons (.v 3) .nil))) (.cons (.call false f__law_random (.cons (.v 2) (.cons (.v 3) .nil))) .nil)))
    (.cons (.set 16 (.blt .sorted (.cons (.sl (.call false f__law_drawn_order (.cons (.v 2) (.cons (.lrange (.rng1 (.v 3))) .nil))) .none (.some (.call false f__law_random (.cons (.v 2) (.cons (.bin .add (.v 3) (.n 1)) .nil))))) .nil)))
    (.cons (.set 17 (.comp (.v 18) (.nm 18) (.rng1 (.v 3)) (.some (.or (.cons (.cmp .mem (.v 18) (.v 16)) (.cons (.cmp .ne (.comp (.v 19) (.nm 19) (.seq (.v 16)) (.some (.ix2 6 (.v 19) (.v 18))) [19]) (.lst .nil)) .nil)))) [18]))
    (.cons (.set 20 (.lst (.cons (.call true f_stands_before (.cons (.v 3) (.cons (.v 4) (.cons (.v 14) (.cons (.v 15) .nil))))) (.cons (.callk f_stands_before .nil (.cons (.v 15) (.cons (.v 14) (.cons (.v 4) (.cons (.v 3) .nil)))) [3, 2, 1, 0]) (.cons (.call true f_closed_up (.cons (.v 3) (.cons (.v 4) (.cons (.v 16) .nil)))) .nil)))))
    (.cons (.set 20 (.bin .add (.v 20) (.lst (.cons (.callk f_closed_up .nil (.cons (.v 16) (.cons (.v 4) (.cons (.v 3) .nil))) [2, 1, 0]) .nil))))
    (.cons (.ite (.or (.cons (.not (.call true f__law_same (.cons (.v 20) (.cons (.bin .add (.bin .mul (.lst (.cons (.ix2 6 (.v 14) (.v 15)) .nil)) (.n 2)) (.bin .mul (.lst (.cons (.v 17) .nil)) (.n 2))) .nil)))) (.cons (.not (.call true f__law_same (.cons (.lst (.cons (.call true f_row_order (.cons (.v 3) .nil)) (.cons (.callk f_row_order .nil (.cons (.v 3) .nil) [0]) .nil))) (.cons (.bin .mul (.lst (.cons (.comp (.tup (.cons (.v 21) (.cons (.bin .add (.v 21) (.n 1)) .nil))) (.nm 21) (.rng1 (.bin .sub (.v 3) (.n 1))) .none [21]) .nil)) (.n 2)) .nil)))) .nil)))
    (.cons (.ret (.tt false))
    .nil)
    .nil)
    (.cons (.set 22 (.lst (.cons (.tup (.cons (.g f_all_pairs) (.cons (.lst (.cons (.v 3) (.cons (.v 4) .nil))) .nil))) (.cons (.tup (.cons (.g f_plain_pairs) (.cons (.lst (.cons (.v 3) (.cons (.v 4) .nil))) .nil))) (.cons (.tup (.cons (.g f_upper_lots) (.cons (.lst (.cons (.v 3) (.cons (.v 4) .nil))) .nil))) (.cons (.tup (.cons (.g f_in_a_row) (.cons (.lst (.cons (.v 3) (.cons (.v 4) .nil))) .nil))) .nil))))))
    (.cons (.set 22 (.bin .add (.v 22) (.lst (.cons (.tup (.cons (.g f_stands_before) (.cons (.lst (.cons (.v 3) (.cons (.v 4) (.cons (.n 0) (.cons (.n 0) .nil))))) .nil))) (.cons (.tup (.cons (.g f_closed_up) (.cons (.lst (.cons (.v 3) (.cons (.v 4) (.cons (.lst .nil) .nil)))) .nil))) .nil)))))
    (.cons (.set 23 (.lst (.cons .non (.cons (.n 0) (.cons (.n 13) (.cons (.bin .sub (.n 0) (.n 1)) (.cons (.tt true) (.cons (.s ⟨#[51]⟩) (.cons (.lst (.cons (.n 3) .nil)) .nil)))))))))
    (.cons (.ite (.or (.cons (.not (.call true f__law_all_refused (.cons (.bin .add (.v 22) (.lst (.cons (.tup (.cons (.g f_row_order) (.cons (.lst (.cons (.v 3) .nil)) .nil))) (.cons (.tup (.cons (.g f_grid_order) (.cons (.lst (.cons (.n 1) (.cons (.n 1) .nil))) .nil))) .nil)))) (.cons (.n 0) (.cons (.s ⟨#[73, 110, 118, 97, 108, 105, 100, 78, 117, 109, 98, 101, 114]⟩) (.cons (.v 23) .nil)))))) (.cons (.not (.call true f__law_all_refused (.cons (.v 22) (.cons (.n 1) (.cons (.s ⟨#[73, 110, 118, 97, 108, 105, 100, 79, 114, 100, 101, 114]⟩) (.cons (.call true f__law_wrong_orders (.cons (.v 3) (.cons (.v 4) .nil))) .nil)))))) .nil)))
    (.cons (.ret (.tt false))
    .nil)
    .nil)
    (.cons (.ite (.or (.cons (.not (.call true f__law_all_refused (.cons (.lst (.cons (.tup (.cons (.g f_grid_order) (.cons (.lst (.cons (.n 1) (.cons (.n 1) .nil))) .nil))) .nil)) (.cons (.n 1) (.cons (.s ⟨#[73, 110, 118, 97, 108, 105, 100, 78, 117, 109, 98, 101, 114]⟩) (.cons (.v 23) .nil)))))) (.cons (.not (.call true f__law_all_refused (.cons (.sl (.v 22) (.some (.n 4)) (.some (.n 5))) (.cons (.n 2) (.cons (.s ⟨#[73, 110, 118, 97, 108, 105, 100, 84, 104, 105, 110, 103]⟩) (.cons (.call true f__law_odd_ones (.cons (.v 3) .nil)) .nil)))))) .nil)))
    (.cons (.ret (.tt false))
    .nil)
    .nil)
    (.cons (.ite (.not (.call true f__law_all_refused (.cons (.sl (.v 22) (.some (.n 4)) (.some (.n 5))) (.cons (.n 3) (.cons (.s ⟨#[73, 110, 118, 97, 108, 105, 100, 84, 104, 105, 110, 103]⟩) (.cons (.call true f__law_odd_ones (.cons (.v 3) .nil)) .nil))))))
    (.cons (.ret (.tt false))
    .nil)
    .nil)
    (.cons (.ret (.and (.cons (.call true f__law_all_refused (.cons (.sl (.v 22) (.some (.n 5)) .none) (.cons (.n 2) (.cons (.s ⟨#[73, 110, 118, 97, 108, 105, 100, 76, 111, 116]⟩) (.cons (.lst (.cons .non (.cons (.n 0) (.cons (.tup .nil) (.cons (.lst (.cons (.v 3) .nil)) (.cons (.lst (.cons (.bin .sub (.n 0) (.n 1)) .nil)) (.cons (.lst (.cons (.n 0) (.cons (.n 0) .nil))) (.cons (.lst (.cons (.tt true) .nil)) (.cons (.lst (.cons (.s ⟨#[48]⟩) .nil)) .nil))))))))) .nil))))) (.cons (.call false f__law_grid_right (.cons (.v 2) .nil)) (.cons (.cmp .eq (.blt .repr (.cons (.v 4) .nil)) (.v 5)) .nil)))))
    .nil)))))))))))))))))))))))⟩
/-- law(script, index) -/
def d_law : Fd := ⟨[false], 2,
    (.cons (.for (.nm 1) (.rng1 (.n 3))
    (.cons (.ite (.not (.call true f__law_case_right (.cons (.v 0) (.cons (.v 1) .nil))))
    (.cons (.ret (.tt false))
    .nil)
    .nil)
    .nil))
    (.cons (.ret (.and (.cons (.call true f__law_raised (.cons (.g f_grid_order) (.cons (.lst (.cons (.n 4) (.cons (.n 4) .nil))) (.cons (.s ⟨#[84, 111, 111, 77, 97, 110, 121]⟩) (.cons (.n 12) .nil))))) (.cons (.call true f__law_same (.cons (.call true f_grid_order (.cons (.n 2) (.cons (.n 2) .nil))) (.cons (.lst (.cons (.tup (.cons (.n 0) (.cons (.n 1) .nil))) (.cons (.tup (.cons (.n 0) (.cons (.n 2) .nil))) (.cons (.tup (.cons (.n 1) (.cons (.n 3) .nil))) (.cons (.tup (.cons (.n 2) (.cons (.n 3) .nil))) .nil))))) .nil))) .nil))))
    .nil))⟩
def bodyL : List Stmt := PySem.Challenge.pw_risingfits_k03_orders_told.main.body
def e_is_whole : DD := ⟨"is_whole", 8, ["value"], ["value"], d_is_whole⟩
def e_is_count : DD := ⟨"is_count", 11, ["value"], ["value"], d_is_count⟩
def e_is_below : DD := ⟨"is_below", 12, ["value", "bound"], ["value", "bound"], d_is_below⟩
def e_is_pair : DD := ⟨"is_pair", 14, ["size", "value"], ["size", "value"], d_is_pair⟩
def e_reach_of : DD := ⟨"reach_of", 15, ["size", "order"], ["size", "order", "before", "other", "thing", "middle"], d_reach_of⟩
def e_is_order_of : DD := ⟨"is_order_of", 16, ["size", "value"], ["size", "value", "pair", "at", "before", "thing"], d_is_order_of⟩
def e_check_order : DD := ⟨"check_order", 17, ["size", "order"], ["size", "order"], d_check_order⟩
def e_is_size : DD := ⟨"is_size", 18, ["value"], ["value"], d_is_size⟩
def e_check_size : DD := ⟨"check_size", 19, ["size"], ["size"], d_check_size⟩
def e_check_case : DD := ⟨"check_case", 20, ["size", "order"], ["size", "order"], d_check_case⟩
def e_check_thing : DD := ⟨"check_thing", 21, ["size", "thing"], ["size", "thing"], d_check_thing⟩
def e_stands_before : DD := ⟨"stands_before", 22, ["size", "order", "thing", "other_thing"], ["size", "order", "thing", "other_thing"], d_stands_before⟩
def e_all_pairs_of : DD := ⟨"all_pairs_of", 23, ["size", "order"], ["size", "order", "before", "found", "thing", "other"], d_all_pairs_of⟩
def e_all_pairs : DD := ⟨"all_pairs", 24, ["size", "order"], ["size", "order"], d_all_pairs⟩
def e_plain_pairs_of : DD := ⟨"plain_pairs_of", 25, ["size", "order"], ["size", "order", "before", "found", "thing", "other", "middle"], d_plain_pairs_of⟩
def e_plain_pairs : DD := ⟨"plain_pairs", 26, ["size", "order"], ["size", "order"], d_plain_pairs⟩
def e_is_lot_of : DD := ⟨"is_lot_of", 27, ["size", "value"], ["size", "value", "thing", "at"], d_is_lot_of⟩
def e_upper_lots_of : DD := ⟨"upper_lots_of", 28, ["size", "order"], ["size", "order", "before", "found", "thing", "behind", "other", "more", "lot"], d_upper_lots_of⟩
def e_running_order : DD := ⟨"running_order", 29, ["size", "order"], ["size", "order", "before", "found", "_", "able", "thing"], d_running_order⟩
def e_is_free : DD := ⟨"is_free", 30, ["before", "found", "thing"], ["before", "found", "thing", "other"], d_is_free⟩
def e_upper_lots : DD := ⟨"upper_lots", 31, ["size", "order"], ["size", "order"], d_upper_lots⟩
def e_in_a_row : DD := ⟨"in_a_row", 32, ["size", "order"], ["size", "order"], d_in_a_row⟩
def e_closed_up : DD := ⟨"closed_up", 33, ["size", "order", "lot"], ["size", "order", "lot", "before", "thing", "other"], d_closed_up⟩
def e_row_order_of : DD := ⟨"row_order_of", 34, ["size"], ["size", "thing"], d_row_order_of⟩
def e_row_order : DD := ⟨"row_order", 35, ["size"], ["size"], d_row_order⟩
def e_grid_order : DD := ⟨"grid_order", 36, ["rows", "columns"], ["rows", "columns", "found", "row", "column", "thing"], d_grid_order⟩
def e__law_hash : DD := ⟨"_law_hash", 38, ["seed", "index"], ["seed", "index", "mixed"], d__law_hash⟩
def e__law_random : DD := ⟨"_law_random", 39, ["generator", "bound"], ["generator", "bound", "drawn", "turn"], d__law_random⟩
def e__law_cell : DD := ⟨"_law_cell", 40, ["script", "index"], ["script", "index"], d__law_cell⟩
def e__law_generator : DD := ⟨"_law_generator", 41, ["script", "index"], ["script", "index", "seed"], d__law_generator⟩
def e__law_drawn_order : DD := ⟨"_law_drawn_order", 42, ["generator", "told_ones"], ["generator", "told_ones", "left", "found"], d__law_drawn_order⟩
def e__law_same : DD := ⟨"_law_same", 43, ["told", "due"], ["told", "due", "at"], d__law_same⟩
def e__law_call : DD := ⟨"_law_call", 44, ["deed", "args"], ["deed", "args"], d__law_call⟩
def e__law_mark : DD := ⟨"_law_mark", 45, ["deed", "args"], ["deed", "args", "mark", "e"], d__law_mark⟩
def e__law_raised : DD := ⟨"_law_raised", 46, ["deed", "args", "kind", "value"], ["deed", "args", "kind", "value", "mark"], d__law_raised⟩
def e__law_refused : DD := ⟨"_law_refused", 47, ["deed", "args", "at", "kind", "wrong"], ["deed", "args", "at", "kind", "wrong", "blank", "thing"], d__law_refused⟩
def e__law_all_refused : DD := ⟨"_law_all_refused", 48, ["deeds", "at", "kind", "wrongs"], ["deeds", "at", "kind", "wrongs", "deed", "args", "wrong"], d__law_all_refused⟩
def e__law_before : DD := ⟨"_law_before", 49, ["size", "order"], ["size", "order", "found", "other", "one", "turn", "third"], d__law_before⟩
def e__law_all_pairs : DD := ⟨"_law_all_pairs", 50, ["size", "order"], ["size", "order", "before", "other", "one"], d__law_all_pairs⟩
def e__law_uppers : DD := ⟨"_law_uppers", 51, ["size", "order"], ["size", "order", "lots", "one", "lot", "pair"], d__law_uppers⟩
def e__law_drawn_order_of : DD := ⟨"_law_drawn_order_of", 52, ["generator", "size"], ["generator", "size", "way", "told", "pairs", "at", "later"], d__law_drawn_order_of⟩
def e__law_wrong_orders : DD := ⟨"_law_wrong_orders", 53, ["size", "order"], ["size", "order", "found"], d__law_wrong_orders⟩
def e__law_odd_ones : DD := ⟨"_law_odd_ones", 54, ["size"], ["size"], d__law_odd_ones⟩
def e__law_is_kind : DD := ⟨"_law_is_kind", 55, ["mark", "kind"], ["mark", "kind"], d__law_is_kind⟩
def e__law_in_a_row : DD := ⟨"_law_in_a_row", 56, ["size", "order"], ["size", "order", "before", "found", "turn", "able", "one", "other"], d__law_in_a_row⟩
def e__law_grid_right : DD := ⟨"_law_grid_right", 57, ["generator"], ["generator", "rows", "columns", "due", "at"], d__law_grid_right⟩
def e__law_case_right : DD := ⟨"_law_case_right", 58, ["script", "index"], (["script", "index", "generator", "size", "order", "kept", "before", "pairs", "plain", "pair", "third", "due", "told", "part", "one", "other", "lot", "closed", "thing", "low"] : List Str) ++ (["answers", "at", "deeds", "sizes"] : List Str), d__law_case_right⟩
def ds : List DD := [e_is_whole, e_is_count, e_is_below, e_is_pair, e_reach_of, e_is_order_of, e_check_order, e_is_size, e_check_size, e_check_case, e_check_thing, e_stands_before, e_all_pairs_of, e_all_pairs, e_plain_pairs_of, e_plain_pairs, e_is_lot_of, e_upper_lots_of, e_running_order, e_is_free, e_upper_lots, e_in_a_row, e_closed_up, e_row_order_of, e_row_order, e_grid_order, e__law_hash, e__law_random, e__law_cell, e__law_generator, e__law_drawn_order, e__law_same, e__law_call, e__law_mark, e__law_raised, e__law_refused, e__law_all_refused, e__law_before, e__law_all_pairs, e__law_uppers, e__law_drawn_order_of, e__law_wrong_orders, e__law_odd_ones, e__law_is_kind, e__law_in_a_row, e__law_grid_right, e__law_case_right]
def T : Nat → Option Fd := fun i => [d_is_whole, d_is_count, d_is_below, d_is_pair, d_reach_of, d_is_order_of, d_check_order, d_is_size, d_check_size, d_check_case, d_check_thing, d_stands_before, d_all_pairs_of, d_all_pairs, d_plain_pairs_of, d_plain_pairs, d_is_lot_of, d_upper_lots_of, d_running_order, d_is_free, d_upper_lots, d_in_a_row, d_closed_up, d_row_order_of, d_row_order, d_grid_order, d__law_hash, d__law_random, d__law_cell, d__law_generator, d__law_drawn_order, d__law_same, d__law_call, d__law_mark, d__law_raised, d__law_refused, d__law_all_refused, d__law_before, d__law_all_pairs, d__law_uppers, d__law_drawn_order_of, d__law_wrong_orders, d__law_odd_ones, d__law_is_kind, d__law_in_a_row, d__law_grid_right, d__law_case_right, d_law][i]?
def kw : List (Nat × Nat × List Str × List Nat) := [(25, 0, ["columns", "rows"], [1, 0]), (11, 0, ["other_thing", "thing", "order", "size"], [3, 2, 1, 0]), (22, 0, ["lot", "order", "size"], [2, 1, 0]), (13, 0, ["order", "size"], [1, 0]), (15, 0, ["order", "size"], [1, 0]), (20, 0, ["order", "size"], [1, 0]), (21, 0, ["order", "size"], [1, 0]), (24, 0, ["size"], [0])]
def ks : List (Str × Int) := [("MOST_THINGS", 12)]
def cls : List Str := ["InvalidOrder", "InvalidThing", "InvalidNumber", "InvalidLot", "TooMany"]
def fit : Option Str := some "FitError"
def nm0 : Names := namesOf ds kw ks cls fit fun _ _ _ _ => false
def lamB : Nat → Arguments → Scope → Expr → Bool := fun k ps sc e => match k with
  | _ => false
def nm : Names := namesOf ds kw ks cls fit lamB
theorem ok_all : ds.all (DD.okB nm bodyL) = true := by decide +kernel
theorem ok_T : ∀ (f : Nat) (e : DD), ds[f]? = some e → T f = some e.F := fun f e h => by
  match f, h with
  | 0, h => obtain rfl := Option.some.inj h; rfl
  | 1, h => obtain rfl := Option.some.inj h; rfl
  | 2, h => obtain rfl := Option.some.inj h; rfl
  | 3, h => obtain rfl := Option.some.inj h; rfl
  | 4, h => obtain rfl := Option.some.inj h; rfl
  | 5, h => obtain rfl := Option.some.inj h; rfl
  | 6, h => obtain rfl := Option.some.inj h; rfl
  | 7, h => obtain rfl := Option.some.inj h; rfl
  | 8, h => obtain rfl := Option.some.inj h; rfl
  | 9, h => obtain rfl := Option.some.inj h; rfl
  | 10, h => obtain rfl := Option.some.inj h; rfl
  | 11, h => obtain rfl := Option.some.inj h; rfl
  | 12, h => obtain rfl := Option.some.inj h; rfl
  | 13, h => obtain rfl := Option.some.inj h; rfl
  | 14, h => obtain rfl := Option.some.inj h; rfl
  | 15, h => obtain rfl := Option.some.inj h; rfl
  | 16, h => obtain rfl := Option.some.inj h; rfl
  | 17, h => obtain rfl := Option.some.inj h; rfl
  | 18, h => obtain rfl := Option.some.inj h; rfl
  | 19, h => obtain rfl := Option.some.inj h; rfl
  | 20, h => obtain rfl := Option.some.inj h; rfl
  | 21, h => obtain rfl := Option.some.inj h; rfl
  | 22, h => obtain rfl := Option.some.inj h; rfl
  | 23, h => obtain rfl := Option.some.inj h; rfl
  | 24, h => obtain rfl := Option.some.inj h; rfl
  | 25, h => obtain rfl := Option.some.inj h; rfl
  | 26, h => obtain rfl := Option.some.inj h; rfl
  | 27, h => obtain rfl := Option.some.inj h; rfl
  | 28, h => obtain rfl := Option.some.inj h; rfl
  | 29, h => obtain rfl := Option.some.inj h; rfl
  | 30, h => obtain rfl := Option.some.inj h; rfl
  | 31, h => obtain rfl := Option.some.inj h; rfl
  | 32, h => obtain rfl := Option.some.inj h; rfl
  | 33, h => obtain rfl := Option.some.inj h; rfl
  | 34, h => obtain rfl := Option.some.inj h; rfl
  | 35, h => obtain rfl := Option.some.inj h; rfl
  | 36, h => obtain rfl := Option.some.inj h; rfl
  | 37, h => obtain rfl := Option.some.inj h; rfl
  | 38, h => obtain rfl := Option.some.inj h; rfl
  | 39, h => obtain rfl := Option.some.inj h; rfl
  | 40, h => obtain rfl := Option.some.inj h; rfl
  | 41, h => obtain rfl := Option.some.inj h; rfl
  | 42, h => obtain rfl := Option.some.inj h; rfl
  | 43, h => obtain rfl := Option.some.inj h; rfl
  | 44, h => obtain rfl := Option.some.inj h; rfl
  | 45, h => obtain rfl := Option.some.inj h; rfl
  | 46, h => obtain rfl := Option.some.inj h; rfl
  | n + 47, h => exact absurd h (by simp [ds])
section
variable {K : PySem.W.Frag} {a : Addr} {fd : FuncData}
theorem b_is_whole (F : FunD K e_is_whole.x e_is_whole.x (defArgs (e_is_whole.st bodyL)) (defBody (e_is_whole.st bodyL)) (defScope (e_is_whole.st bodyL)) [] [] a fd) : BindOk K kw 0 e_is_whole fd := by
  refine ⟨F.bindsN fun _ _ _ _ _ _ us hl => match us, hl with | [_], _ => rfl, fun n ks perm hm => ?_⟩
  simp [kw] at hm
theorem b_is_count (F : FunD K e_is_count.x e_is_count.x (defArgs (e_is_count.st bodyL)) (defBody (e_is_count.st bodyL)) (defScope (e_is_count.st bodyL)) [] [] a fd) : BindOk K kw 1 e_is_count fd := by
  refine ⟨F.bindsN fun _ _ _ _ _ _ us hl => match us, hl with | [_], _ => rfl, fun n ks perm hm => ?_⟩
  simp [kw] at hm
theorem b_is_below (F : FunD K e_is_below.x e_is_below.x (defArgs (e_is_below.st bodyL)) (defBody (e_is_below.st bodyL)) (defScope (e_is_below.st bodyL)) [] [] a fd) : BindOk K kw 2 e_is_below fd := by
  refine ⟨F.bindsN fun _ _ _ _ _ _ us hl => match us, hl with | [_, _], _ => rfl, fun n ks perm hm => ?_⟩
  simp [kw] at hm
theorem b_is_pair (F : FunD K e_is_pair.x e_is_pair.x (defArgs (e_is_pair.st bodyL)) (defBody (e_is_pair.st bodyL)) (defScope (e_is_pair.st bodyL)) [] [] a fd) : BindOk K kw 3 e_is_pair fd := by
  refine ⟨F.bindsN fun _ _ _ _ _ _ us hl => match us, hl with | [_, _], _ => rfl, fun n ks perm hm => ?_⟩
  simp [kw] at hm
theorem b_reach_of (F : FunD K e_reach_of.x e_reach_of.x (defArgs (e_reach_of.st bodyL)) (defBody (e_reach_of.st bodyL)) (defScope (e_reach_of.st bodyL)) [] [] a fd) : BindOk K kw 4 e_reach_of fd := by
  refine ⟨F.bindsN fun _ _ _ _ _ _ us hl => match us, hl with | [_, _], _ => rfl, fun n ks perm hm => ?_⟩
  simp [kw] at hm
theorem b_is_order_of (F : FunD K e_is_order_of.x e_is_order_of.x (defArgs (e_is_order_of.st bodyL)) (defBody (e_is_order_of.st bodyL)) (defScope (e_is_order_of.st bodyL)) [] [] a fd) : BindOk K kw 5 e_is_order_of fd := by
  refine ⟨F.bindsN fun _ _ _ _ _ _ us hl => match us, hl with | [_, _], _ => rfl, fun n ks perm hm => ?_⟩
  simp [kw] at hm
theorem b_check_order (F : FunD K e_check_order.x e_check_order.x (defArgs (e_check_order.st bodyL)) (defBody (e_check_order.st bodyL)) (defScope (e_check_order.st bodyL)) [] [] a fd) : BindOk K kw 6 e_check_order fd := by
  refine ⟨F.bindsN fun _ _ _ _ _ _ us hl => match us, hl with | [_, _], _ => rfl, fun n ks perm hm => ?_⟩
  simp [kw] at hm
theorem b_is_size (F : FunD K e_is_size.x e_is_size.x (defArgs (e_is_size.st bodyL)) (defBody (e_is_size.st bodyL)) (defScope (e_is_size.st bodyL)) [] [] a fd) : BindOk K kw 7 e_is_size fd := by
  refine ⟨F.bindsN fun _ _ _ _ _ _ us hl => match us, hl with | [_], _ => rfl, fun n ks perm hm => ?_⟩
  simp [kw] at hm
theorem b_check_size (F : FunD K e_check_size.x e_check_size.x (defArgs (e_check_size.st bodyL)) (defBody (e_check_size.st bodyL)) (defScope (e_check_size.st bodyL)) [] [] a fd) : BindOk K kw 8 e_check_size fd := by
  refine ⟨F.bindsN fun _ _ _ _ _ _ us hl => match us, hl with | [_], _ => rfl, fun n ks perm hm => ?_⟩
  simp [kw] at hm
theorem b_check_case (F : FunD K e_check_case.x e_check_case.x (defArgs (e_check_case.st bodyL)) (defBody (e_check_case.st bodyL)) (defScope (e_check_case.st bodyL)) [] [] a fd) : BindOk K kw 9 e_check_case fd := by
  refine ⟨F.bindsN fun _ _ _ _ _ _ us hl => match us, hl with | [_, _], _ => rfl, fun n ks perm hm => ?_⟩
  simp [kw] at hm
theorem b_check_thing (F : FunD K e_check_thing.x e_check_thing.x (defArgs (e_check_thing.st bodyL)) (defBody (e_check_thing.st bodyL)) (defScope (e_check_thing.st bodyL)) [] [] a fd) : BindOk K kw 10 e_check_thing fd := by
  refine ⟨F.bindsN fun _ _ _ _ _ _ us hl => match us, hl with | [_, _], _ => rfl, fun n ks perm hm => ?_⟩
  simp [kw] at hm
theorem b_stands_before (F : FunD K e_stands_before.x e_stands_before.x (defArgs (e_stands_before.st bodyL)) (defBody (e_stands_before.st bodyL)) (defScope (e_stands_before.st bodyL)) [] [] a fd) : BindOk K kw 11 e_stands_before fd := by
  refine ⟨F.bindsN fun _ _ _ _ _ _ us hl => match us, hl with | [_, _, _, _], _ => rfl, fun n ks perm hm => ?_⟩
  simp only [kw, List.mem_cons, Prod.mk.injEq, List.not_mem_nil, or_false] at hm
  have hm : (n = 0 ∧ ks = (["other_thing", "thing", "order", "size"] : List Str) ∧ perm = [3, 2, 1, 0]) := by
    revert hm; simp
  obtain ⟨oc, od, dV, kV, doc, pm, an, cdv, ct, osl, rfl, _, _, hD, _⟩ := F.ex
  rcases hD with ⟨_, rfl⟩ | ⟨e, _⟩
  rotate_left
  · exact absurd rfl e
  obtain ⟨rfl, rfl, rfl⟩ := hm
  · intro s us ws hK h1 h2
    match us, ws, h1, h2 with
    | [], [_, _, _, _], _, _ => exact .of_eq rfl
theorem b_all_pairs_of (F : FunD K e_all_pairs_of.x e_all_pairs_of.x (defArgs (e_all_pairs_of.st bodyL)) (defBody (e_all_pairs_of.st bodyL)) (defScope (e_all_pairs_of.st bodyL)) [] [] a fd) : BindOk K kw 12 e_all_pairs_of fd := by
  refine ⟨F.bindsN fun _ _ _ _ _ _ us hl => match us, hl with | [_, _], _ => rfl, fun n ks perm hm => ?_⟩
  simp [kw] at hm
theorem b_all_pairs (F : FunD K e_all_pairs.x e_all_pairs.x (defArgs (e_all_pairs.st bodyL)) (defBody (e_all_pairs.st bodyL)) (defScope (e_all_pairs.st bodyL)) [] [] a fd) : BindOk K kw 13 e_all_pairs fd := by
  refine ⟨F.bindsN fun _ _ _ _ _ _ us hl => match us, hl with | [_, _], _ => rfl, fun n ks perm hm => ?_⟩
  simp only [kw, List.mem_cons, Prod.mk.injEq, List.not_mem_nil, or_false] at hm
  have hm : (n = 0 ∧ ks = (["order", "size"] : List Str) ∧ perm = [1, 0]) := by
    revert hm; simp
  obtain ⟨oc, od, dV, kV, doc, pm, an, cdv, ct, osl, rfl, _, _, hD, _⟩ := F.ex
  rcases hD with ⟨_, rfl⟩ | ⟨e, _⟩
  rotate_left
  · exact absurd rfl e
  obtain ⟨rfl, rfl, rfl⟩ := hm
  · intro s us ws hK h1 h2
    match us, ws, h1, h2 with
    | [], [_, _], _, _ => exact .of_eq rfl
theorem b_plain_pairs_of (F : FunD K e_plain_pairs_of.x e_plain_pairs_of.x (defArgs (e_plain_pairs_of.st bodyL)) (defBody (e_plain_pairs_of.st bodyL)) (defScope (e_plain_pairs_of.st bodyL)) [] [] a fd) : BindOk K kw 14 e_plain_pairs_of fd := by
  refine ⟨F.bindsN fun _ _ _ _ _ _ us hl => match us, hl with | [_, _], _ => rfl, fun n ks perm hm => ?_⟩
  simp [kw] at hm
theorem b_plain_pairs (F : FunD K e_plain_pairs.x e_plain_pairs.x (defArgs (e_plain_pairs.st bodyL)) (defBody (e_plain_pairs.st bodyL)) (defScope (e_plain_pairs.st bodyL)) [] [] a fd) : BindOk K kw 15 e_plain_pairs fd := by
  refine ⟨F.bindsN fun _ _ _ _ _ _ us hl => match us, hl with | [_, _], _ => rfl, fun n ks perm hm => ?_⟩
  simp only [kw, List.mem_cons, Prod.mk.injEq, List.not_mem_nil, or_false] at hm
  have hm : (n = 0 ∧ ks = (["order", "size"] : List Str) ∧ perm = [1, 0]) := by
    revert hm; simp
  obtain ⟨oc, od, dV, kV, doc, pm, an, cdv, ct, osl, rfl, _, _, hD, _⟩ := F.ex
  rcases hD with ⟨_, rfl⟩ | ⟨e, _⟩
  rotate_left
  · exact absurd rfl e
  obtain ⟨rfl, rfl, rfl⟩ := hm
  · intro s us ws hK h1 h2
    match us, ws, h1, h2 with
    | [], [_, _], _, _ => exact .of_eq rfl
theorem b_is_lot_of (F : FunD K e_is_lot_of.x e_is_lot_of.x (defArgs (e_is_lot_of.st bodyL)) (defBody (e_is_lot_of.st bodyL)) (defScope (e_is_lot_of.st bodyL)) [] [] a fd) : BindOk K kw 16 e_is_lot_of fd := by
  refine ⟨F.bindsN fun _ _ _ _ _ _ us hl => match us, hl with | [_, _], _ => rfl, fun n ks perm hm => ?_⟩
  simp [kw] at hm
theorem b_upper_lots_of (F : FunD K e_upper_lots_of.x e_upper_lots_of.x (defArgs (e_upper_lots_of.st bodyL)) (defBody (e_upper_lots_of.st bodyL)) (defScope (e_upper_lots_of.st bodyL)) [] [] a fd) : BindOk K kw 17 e_upper_lots_of fd := by
  refine ⟨F.bindsN fun _ _ _ _ _ _ us hl => match us, hl with | [_, _], _ => rfl, fun n ks perm hm => ?_⟩
  simp [kw] at hm
theorem b_running_order (F : FunD K e_running_order.x e_running_order.x (defArgs (e_running_order.st bodyL)) (defBody (e_running_order.st bodyL)) (defScope (e_running_order.st bodyL)) [] [] a fd) : BindOk K kw 18 e_running_order fd := by
  refine ⟨F.bindsN fun _ _ _ _ _ _ us hl => match us, hl with | [_, _], _ => rfl, fun n ks perm hm => ?_⟩
  simp [kw] at hm
theorem b_is_free (F : FunD K e_is_free.x e_is_free.x (defArgs (e_is_free.st bodyL)) (defBody (e_is_free.st bodyL)) (defScope (e_is_free.st bodyL)) [] [] a fd) : BindOk K kw 19 e_is_free fd := by
  refine ⟨F.bindsN fun _ _ _ _ _ _ us hl => match us, hl with | [_, _, _], _ => rfl, fun n ks perm hm => ?_⟩
  simp [kw] at hm
theorem b_upper_lots (F : FunD K e_upper_lots.x e_upper_lots.x (defArgs (e_upper_lots.st bodyL)) (defBody (e_upper_lots.st bodyL)) (defScope (e_upper_lots.st bodyL)) [] [] a fd) : BindOk K kw 20 e_upper_lots fd := by
  refine ⟨F.bindsN fun _ _ _ _ _ _ us hl => match us, hl with | [_, _], _ => rfl, fun n ks perm hm => ?_⟩
  simp only [kw, List.mem_cons, Prod.mk.injEq, List.not_mem_nil, or_false] at hm
  have hm : (n = 0 ∧ ks = (["order", "size"] : List Str) ∧ perm = [1, 0]) := by
    revert hm; simp
  obtain ⟨oc, od, dV, kV, doc, pm, an, cdv, ct, osl, rfl, _, _, hD, _⟩ := F.ex
  rcases hD with ⟨_, rfl⟩ | ⟨e, _⟩
  rotate_left
  · exact absurd rfl e
  obtain ⟨rfl, rfl, rfl⟩ := hm
  · intro s us ws hK h1 h2
    match us, ws, h1, h2 with
    | [], [_, _], _, _ => exact .of_eq rfl
theorem b_in_a_row (F : FunD K e_in_a_row.x e_in_a_row.x (defArgs (e_in_a_row.st bodyL)) (defBody (e_in_a_row.st bodyL)) (defScope (e_in_a_row.st bodyL)) [] [] a fd) : BindOk K kw 21 e_in_a_row fd := by
  refine ⟨F.bindsN fun _ _ _ _ _ _ us hl => match us, hl with | [_, _], _ => rfl, fun n ks perm hm => ?_⟩
  simp only [kw, List.mem_cons, Prod.mk.injEq, List.not_mem_nil, or_false] at hm
  have hm : (n = 0 ∧ ks = (["order", "size"] : List Str) ∧ perm = [1, 0]) := by
    revert hm; simp
  obtain ⟨oc, od, dV, kV, doc, pm, an, cdv, ct, osl, rfl, _, _, hD, _⟩ := F.ex
  rcases hD with ⟨_, rfl⟩ | ⟨e, _⟩
  rotate_left
  · exact absurd rfl e
  obtain ⟨rfl, rfl, rfl⟩ := hm
  · intro s us ws hK h1 h2
    match us, ws, h1, h2 with
    | [], [_, _], _, _ => exact .of_eq rfl
theorem b_closed_up (F : FunD K e_closed_up.x e_closed_up.x (defArgs (e_closed_up.st bodyL)) (defBody (e_closed_up.st bodyL)) (defScope (e_closed_up.st bodyL)) [] [] a fd) : BindOk K kw 22 e_closed_up fd := by
  refine ⟨F.bindsN fun _ _ _ _ _ _ us hl => match us, hl with | [_, _, _], _ => rfl, fun n ks perm hm => ?_⟩
  simp only [kw, List.mem_cons, Prod.mk.injEq, List.not_mem_nil, or_false] at hm
  have hm : (n = 0 ∧ ks = (["lot", "order", "size"] : List Str) ∧ perm = [2, 1, 0]) := by
    revert hm; simp
  obtain ⟨oc, od, dV, kV, doc, pm, an, cdv, ct, osl, rfl, _, _, hD, _⟩ := F.ex
  rcases hD with ⟨_, rfl⟩ | ⟨e, _⟩
  rotate_left
  · exact absurd rfl e
  obtain ⟨rfl, rfl, rfl⟩ := hm
  · intro s us ws hK h1 h2
    match us, ws, h1, h2 with
    | [], [_, _, _], _, _ => exact .of_eq rfl
theorem b_row_order_of (F : FunD K e_row_order_of.x e_row_order_of.x (defArgs (e_row_order_of.st bodyL)) (defBody (e_row_order_of.st bodyL)) (defScope (e_row_order_of.st bodyL)) [] [] a fd) : BindOk K kw 23 e_row_order_of fd := by
  refine ⟨F.bindsN fun _ _ _ _ _ _ us hl => match us, hl with | [_], _ => rfl, fun n ks perm hm => ?_⟩
  simp [kw] at hm
theorem b_row_order (F : FunD K e_row_order.x e_row_order.x (defArgs (e_row_order.st bodyL)) (defBody (e_row_order.st bodyL)) (defScope (e_row_order.st bodyL)) [] [] a fd) : BindOk K kw 24 e_row_order fd := by
  refine ⟨F.bindsN fun _ _ _ _ _ _ us hl => match us, hl with | [_], _ => rfl, fun n ks perm hm => ?_⟩
  simp only [kw, List.mem_cons, Prod.mk.injEq, List.not_mem_nil, or_false] at hm
  have hm : (n = 0 ∧ ks = (["size"] : List Str) ∧ perm = [0]) := by
    revert hm; simp
  obtain ⟨oc, od, dV, kV, doc, pm, an, cdv, ct, osl, rfl, _, _, hD, _⟩ := F.ex
  rcases hD with ⟨_, rfl⟩ | ⟨e, _⟩
  rotate_left
  · exact absurd rfl e
  obtain ⟨rfl, rfl, rfl⟩ := hm
  · intro s us ws hK h1 h2
    match us, ws, h1, h2 with
    | [], [_], _, _ => exact .of_eq rfl
theorem b_grid_order (F : FunD K e_grid_order.x e_grid_order.x (defArgs (e_grid_order.st bodyL)) (defBody (e_grid_order.st bodyL)) (defScope (e_grid_order.st bodyL)) [] [] a fd) : BindOk K kw 25 e_grid_order fd := by
  refine ⟨F.bindsN fun _ _ _ _ _ _ us hl => match us, hl with | [_, _], _ => rfl, fun n ks perm hm => ?_⟩
  simp only [kw, List.mem_cons, Prod.mk.injEq, List.not_mem_nil, or_false] at hm
  have hm : (n = 0 ∧ ks = (["columns", "rows"] : List Str) ∧ perm = [1, 0]) := by
    revert hm; simp
  obtain ⟨oc, od, dV, kV, doc, pm, an, cdv, ct, osl, rfl, _, _, hD, _⟩ := F.ex
  rcases hD with ⟨_, rfl⟩ | ⟨e, _⟩
  rotate_left
  · exact absurd rfl e
  obtain ⟨rfl, rfl, rfl⟩ := hm
  · intro s us ws hK h1 h2
    match us, ws, h1, h2 with
    | [], [_, _], _, _ => exact .of_eq rfl
theorem b__law_hash (F : FunD K e__law_hash.x e__law_hash.x (defArgs (e__law_hash.st bodyL)) (defBody (e__law_hash.st bodyL)) (defScope (e__law_hash.st bodyL)) [] [] a fd) : BindOk K kw 26 e__law_hash fd := by
  refine ⟨F.bindsN fun _ _ _ _ _ _ us hl => match us, hl with | [_, _], _ => rfl, fun n ks perm hm => ?_⟩
  simp [kw] at hm
theorem b__law_random (F : FunD K e__law_random.x e__law_random.x (defArgs (e__law_random.st bodyL)) (defBody (e__law_random.st bodyL)) (defScope (e__law_random.st bodyL)) [] [] a fd) : BindOk K kw 27 e__law_random fd := by
  refine ⟨F.bindsN fun _ _ _ _ _ _ us hl => match us, hl with | [_, _], _ => rfl, fun n ks perm hm => ?_⟩
  simp [kw] at hm
theorem b__law_cell (F : FunD K e__law_cell.x e__law_cell.x (defArgs (e__law_cell.st bodyL)) (defBody (e__law_cell.st bodyL)) (defScope (e__law_cell.st bodyL)) [] [] a fd) : BindOk K kw 28 e__law_cell fd := by
  refine ⟨F.bindsN fun _ _ _ _ _ _ us hl => match us, hl with | [_, _], _ => rfl, fun n ks perm hm => ?_⟩
  simp [kw] at hm
theorem b__law_generator (F : FunD K e__law_generator.x e__law_generator.x (defArgs (e__law_generator.st bodyL)) (defBody (e__law_generator.st bodyL)) (defScope (e__law_generator.st bodyL)) [] [] a fd) : BindOk K kw 29 e__law_generator fd := by
  refine ⟨F.bindsN fun _ _ _ _ _ _ us hl => match us, hl with | [_, _], _ => rfl, fun n ks perm hm => ?_⟩
  simp [kw] at hm
theorem b__law_drawn_order (F : FunD K e__law_drawn_order.x e__law_drawn_order.x (defArgs (e__law_drawn_order.st bodyL)) (defBody (e__law_drawn_order.st bodyL)) (defScope (e__law_drawn_order.st bodyL)) [] [] a fd) : BindOk K kw 30 e__law_drawn_order fd := by
  refine ⟨F.bindsN fun _ _ _ _ _ _ us hl => match us, hl with | [_, _], _ => rfl, fun n ks perm hm => ?_⟩
  simp [kw] at hm
theorem b__law_same (F : FunD K e__law_same.x e__law_same.x (defArgs (e__law_same.st bodyL)) (defBody (e__law_same.st bodyL)) (defScope (e__law_same.st bodyL)) [] [] a fd) : BindOk K kw 31 e__law_same fd := by
  refine ⟨F.bindsN fun _ _ _ _ _ _ us hl => match us, hl with | [_, _], _ => rfl, fun n ks perm hm => ?_⟩
  simp [kw] at hm
theorem b__law_call (F : FunD K e__law_call.x e__law_call.x (defArgs (e__law_call.st bodyL)) (defBody (e__law_call.st bodyL)) (defScope (e__law_call.st bodyL)) [] [] a fd) : BindOk K kw 32 e__law_call fd := by
  refine ⟨F.bindsN fun _ _ _ _ _ _ us hl => match us, hl with | [_, _], _ => rfl, fun n ks perm hm => ?_⟩
  simp [kw] at hm
theorem b__law_mark (F : FunD K e__law_mark.x e__law_mark.x (defArgs (e__law_mark.st bodyL)) (defBody (e__law_mark.st bodyL)) (defScope (e__law_mark.st bodyL)) [] [] a fd) : BindOk K kw 33 e__law_mark fd := by
  refine ⟨F.bindsN fun _ _ _ _ _ _ us hl => match us, hl with | [_, _], _ => rfl, fun n ks perm hm => ?_⟩
  simp [kw] at hm
theorem b__law_raised (F : FunD K e__law_raised.x e__law_raised.x (defArgs (e__law_raised.st bodyL)) (defBody (e__law_raised.st bodyL)) (defScope (e__law_raised.st bodyL)) [] [] a fd) : BindOk K kw 34 e__law_raised fd := by
  refine ⟨F.bindsN fun _ _ _ _ _ _ us hl => match us, hl with | [_, _, _, _], _ => rfl, fun n ks perm hm => ?_⟩
  simp [kw] at hm
theorem b__law_refused (F : FunD K e__law_refused.x e__law_refused.x (defArgs (e__law_refused.st bodyL)) (defBody (e__law_refused.st bodyL)) (defScope (e__law_refused.st bodyL)) [] [] a fd) : BindOk K kw 35 e__law_refused fd := by
  refine ⟨F.bindsN fun _ _ _ _ _ _ us hl => match us, hl with | [_, _, _, _, _], _ => rfl, fun n ks perm hm => ?_⟩
  simp [kw] at hm
theorem b__law_all_refused (F : FunD K e__law_all_refused.x e__law_all_refused.x (defArgs (e__law_all_refused.st bodyL)) (defBody (e__law_all_refused.st bodyL)) (defScope (e__law_all_refused.st bodyL)) [] [] a fd) : BindOk K kw 36 e__law_all_refused fd := by
  refine ⟨F.bindsN fun _ _ _ _ _ _ us hl => match us, hl with | [_, _, _, _], _ => rfl, fun n ks perm hm => ?_⟩
  simp [kw] at hm
theorem b__law_before (F : FunD K e__law_before.x e__law_before.x (defArgs (e__law_before.st bodyL)) (defBody (e__law_before.st bodyL)) (defScope (e__law_before.st bodyL)) [] [] a fd) : BindOk K kw 37 e__law_before fd := by
  refine ⟨F.bindsN fun _ _ _ _ _ _ us hl => match us, hl with | [_, _], _ => rfl, fun n ks perm hm => ?_⟩
  simp [kw] at hm
theorem b__law_all_pairs (F : FunD K e__law_all_pairs.x e__law_all_pairs.x (defArgs (e__law_all_pairs.st bodyL)) (defBody (e__law_all_pairs.st bodyL)) (defScope (e__law_all_pairs.st bodyL)) [] [] a fd) : BindOk K kw 38 e__law_all_pairs fd := by
  refine ⟨F.bindsN fun _ _ _ _ _ _ us hl => match us, hl with | [_, _], _ => rfl, fun n ks perm hm => ?_⟩
  simp [kw] at hm
theorem b__law_uppers (F : FunD K e__law_uppers.x e__law_uppers.x (defArgs (e__law_uppers.st bodyL)) (defBody (e__law_uppers.st bodyL)) (defScope (e__law_uppers.st bodyL)) [] [] a fd) : BindOk K kw 39 e__law_uppers fd := by
  refine ⟨F.bindsN fun _ _ _ _ _ _ us hl => match us, hl with | [_, _], _ => rfl, fun n ks perm hm => ?_⟩
  simp [kw] at hm
theorem b__law_drawn_order_of (F : FunD K e__law_drawn_order_of.x e__law_drawn_order_of.x (defArgs (e__law_drawn_order_of.st bodyL)) (defBody (e__law_drawn_order_of.st bodyL)) (defScope (e__law_drawn_order_of.st bodyL)) [] [] a fd) : BindOk K kw 40 e__law_drawn_order_of fd := by
  refine ⟨F.bindsN fun _ _ _ _ _ _ us hl => match us, hl with | [_, _], _ => rfl, fun n ks perm hm => ?_⟩
  simp [kw] at hm
theorem b__law_wrong_orders (F : FunD K e__law_wrong_orders.x e__law_wrong_orders.x (defArgs (e__law_wrong_orders.st bodyL)) (defBody (e__law_wrong_orders.st bodyL)) (defScope (e__law_wrong_orders.st bodyL)) [] [] a fd) : BindOk K kw 41 e__law_wrong_orders fd := by
  refine ⟨F.bindsN fun _ _ _ _ _ _ us hl => match us, hl with | [_, _], _ => rfl, fun n ks perm hm => ?_⟩
  simp [kw] at hm
theorem b__law_odd_ones (F : FunD K e__law_odd_ones.x e__law_odd_ones.x (defArgs (e__law_odd_ones.st bodyL)) (defBody (e__law_odd_ones.st bodyL)) (defScope (e__law_odd_ones.st bodyL)) [] [] a fd) : BindOk K kw 42 e__law_odd_ones fd := by
  refine ⟨F.bindsN fun _ _ _ _ _ _ us hl => match us, hl with | [_], _ => rfl, fun n ks perm hm => ?_⟩
  simp [kw] at hm
theorem b__law_is_kind (F : FunD K e__law_is_kind.x e__law_is_kind.x (defArgs (e__law_is_kind.st bodyL)) (defBody (e__law_is_kind.st bodyL)) (defScope (e__law_is_kind.st bodyL)) [] [] a fd) : BindOk K kw 43 e__law_is_kind fd := by
  refine ⟨F.bindsN fun _ _ _ _ _ _ us hl => match us, hl with | [_, _], _ => rfl, fun n ks perm hm => ?_⟩
  simp [kw] at hm
theorem b__law_in_a_row (F : FunD K e__law_in_a_row.x e__law_in_a_row.x (defArgs (e__law_in_a_row.st bodyL)) (defBody (e__law_in_a_row.st bodyL)) (defScope (e__law_in_a_row.st bodyL)) [] [] a fd) : BindOk K kw 44 e__law_in_a_row fd := by
  refine ⟨F.bindsN fun _ _ _ _ _ _ us hl => match us, hl with | [_, _], _ => rfl, fun n ks perm hm => ?_⟩
  simp [kw] at hm
theorem b__law_grid_right (F : FunD K e__law_grid_right.x e__law_grid_right.x (defArgs (e__law_grid_right.st bodyL)) (defBody (e__law_grid_right.st bodyL)) (defScope (e__law_grid_right.st bodyL)) [] [] a fd) : BindOk K kw 45 e__law_grid_right fd := by
  refine ⟨F.bindsN fun _ _ _ _ _ _ us hl => match us, hl with | [_], _ => rfl, fun n ks perm hm => ?_⟩
  simp [kw] at hm
theorem b__law_case_right (F : FunD K e__law_case_right.x e__law_case_right.x (defArgs (e__law_case_right.st bodyL)) (defBody (e__law_case_right.st bodyL)) (defScope (e__law_case_right.st bodyL)) [] [] a fd) : BindOk K kw 46 e__law_case_right fd := by
  refine ⟨F.bindsN fun _ _ _ _ _ _ us hl => match us, hl with | [_, _], _ => rfl, fun n ks perm hm => ?_⟩
  simp [kw] at hm
theorem b_all (f : Nat) (e : DD) (fd : FuncData) (h : ds[f]? = some e) (F : FunD K e.x e.x (defArgs (e.st bodyL)) (defBody (e.st bodyL)) (defScope (e.st bodyL)) [] [] (He.ga K e.x) fd) : BindOk K kw f e fd := by
  match f, h with
  | 0, h => obtain rfl := Option.some.inj h; exact b_is_whole F
  | 1, h => obtain rfl := Option.some.inj h; exact b_is_count F
  | 2, h => obtain rfl := Option.some.inj h; exact b_is_below F
  | 3, h => obtain rfl := Option.some.inj h; exact b_is_pair F
  | 4, h => obtain rfl := Option.some.inj h; exact b_reach_of F
  | 5, h => obtain rfl := Option.some.inj h; exact b_is_order_of F
  | 6, h => obtain rfl := Option.some.inj h; exact b_check_order F
  | 7, h => obtain rfl := Option.some.inj h; exact b_is_size F
  | 8, h => obtain rfl := Option.some.inj h; exact b_check_size F
  | 9, h => obtain rfl := Option.some.inj h; exact b_check_case F
  | 10, h => obtain rfl := Option.some.inj h; exact b_check_thing F
  | 11, h => obtain rfl := Option.some.inj h; exact b_stands_before F
  | 12, h => obtain rfl := Option.some.inj h; exact b_all_pairs_of F
  | 13, h => obtain rfl := Option.some.inj h; exact b_all_pairs F
  | 14, h => obtain rfl := Option.some.inj h; exact b_plain_pairs_of F
  | 15, h => obtain rfl := Option.some.inj h; exact b_plain_pairs F
  | 16, h => obtain rfl := Option.some.inj h; exact b_is_lot_of F
  | 17, h => obtain rfl := Option.some.inj h; exact b_upper_lots_of F
  | 18, h => obtain rfl := Option.some.inj h; exact b_running_order F
  | 19, h => obtain rfl := Option.some.inj h; exact b_is_free F
  | 20, h => obtain rfl := Option.some.inj h; exact b_upper_lots F
  | 21, h => obtain rfl := Option.some.inj h; exact b_in_a_row F
  | 22, h => obtain rfl := Option.some.inj h; exact b_closed_up F
  | 23, h => obtain rfl := Option.some.inj h; exact b_row_order_of F
  | 24, h => obtain rfl := Option.some.inj h; exact b_row_order F
  | 25, h => obtain rfl := Option.some.inj h; exact b_grid_order F
  | 26, h => obtain rfl := Option.some.inj h; exact b__law_hash F
  | 27, h => obtain rfl := Option.some.inj h; exact b__law_random F
  | 28, h => obtain rfl := Option.some.inj h; exact b__law_cell F
  | 29, h => obtain rfl := Option.some.inj h; exact b__law_generator F
  | 30, h => obtain rfl := Option.some.inj h; exact b__law_drawn_order F
  | 31, h => obtain rfl := Option.some.inj h; exact b__law_same F
  | 32, h => obtain rfl := Option.some.inj h; exact b__law_call F
  | 33, h => obtain rfl := Option.some.inj h; exact b__law_mark F
  | 34, h => obtain rfl := Option.some.inj h; exact b__law_raised F
  | 35, h => obtain rfl := Option.some.inj h; exact b__law_refused F
  | 36, h => obtain rfl := Option.some.inj h; exact b__law_all_refused F
  | 37, h => obtain rfl := Option.some.inj h; exact b__law_before F
  | 38, h => obtain rfl := Option.some.inj h; exact b__law_all_pairs F
  | 39, h => obtain rfl := Option.some.inj h; exact b__law_uppers F
  | 40, h => obtain rfl := Option.some.inj h; exact b__law_drawn_order_of F
  | 41, h => obtain rfl := Option.some.inj h; exact b__law_wrong_orders F
  | 42, h => obtain rfl := Option.some.inj h; exact b__law_odd_ones F
  | 43, h => obtain rfl := Option.some.inj h; exact b__law_is_kind F
  | 44, h => obtain rfl := Option.some.inj h; exact b__law_in_a_row F
  | 45, h => obtain rfl := Option.some.inj h; exact b__law_grid_right F
  | 46, h => obtain rfl := Option.some.inj h; exact b__law_case_right F
  | n + 47, h => exact absurd h (by simp [ds])
end
theorem ok_lam : LamOk nm T lamB := fun k L h => by
  unfold lamB at h
  split at h
  · cases h
theorem ok_free {q : Str} {K : PySem.W.Frag} (k : Nat) (params : Arguments) (scope : Scope) (body : Expr) (h : lamB k params scope body = true) : (fnsOf K ds cls lamB).ml k ⟨q, params, body, scope⟩ ∧ (∀ y ∈ scope.names, y.2 ≠ .free) ∧ ∀ env, defaultsOf params env = ([], []) := by
  refine ⟨h, ?_⟩
  unfold lamB at h
  split at h
  · cases h
def stL : Stmt := bodyL.getD 59 (.Pass ⟨0, 0, 0, 0⟩)
def nL : List Str := ["script", "index"]
theorem ok_sc : FnScope nL ["script"] (defScope stL) := scB_ok (by decide +kernel)
theorem ok_law : isTop { nm with mks := true } nL [] (defScope stL) d_law.body (defBody stL) = true := by decide +kernel
/-- what the law computes -/
def run (s : List Int) : CR := runF ⟨RF.G T 5000 20, sigT T⟩ 5000 d_law [.z (.scr s)]
def dL : He.DefD := ⟨("law", none), "law", "law", defArgs stL, defBody stL, defScope stL, [], []⟩
def fnL : List He.DefD := dL :: ds.map (DD.d bodyL)
def faL : List He.Fa := He.Fa.glo "law" :: (ds.map (fun e => He.Fa.glo e.x) ++ (bltNames.map He.Fa.free ++ (ks.map (fun q => He.Fa.int q.1 q.2) ++ (cls.map He.Fa.glo ++ fit.toList.map He.Fa.glo))))
abbrev R : PySem.W.OpenRow := PySem.W.OpenLaw.row PySem.Challenge.rw_risingfits_k03_orders_told
abbrev tf : List He.Defn := [("law", none)]
abbrev ex : PySem.W.Frag → Bool := clsOkB PySem.Challenge.rw_risingfits_k03_orders_told.prog cls fit
abbrev hk : PySem.W.Hook := hookY 6 faL fnL [] tf ex
def ob (s : PySem.W.SharedT) : He.AlX × Bool := obY 6 faL fnL [] tf ex (HandSHeadRun.getT s)
theorem ob_eq (s : PySem.W.SharedT) : ob s = hk.obs s.abs := obY_eq (HandSHeadRun.getT_eq s)
def names : List Str := (["is_whole", "is_count", "is_below", "is_pair", "reach_of", "is_order_of", "check_order", "is_size", "check_size", "check_case", "check_thing", "stands_before", "all_pairs_of", "all_pairs", "plain_pairs_of", "plain_pairs", "is_lot_of", "upper_lots_of", "running_order", "is_free"] : List Str) ++ (["upper_lots", "in_a_row", "closed_up", "row_order_of", "row_order", "grid_order", "_law_hash", "_law_random", "_law_cell", "_law_generator", "_law_drawn_order", "_law_same", "_law_call", "_law_mark", "_law_raised", "_law_refused", "_law_all_refused", "_law_before", "_law_all_pairs", "_law_uppers"] : List Str) ++ (["_law_drawn_order_of", "_law_wrong_orders", "_law_odd_ones", "_law_is_kind", "_law_in_a_row", "_law_grid_right", "_law_case_right", "MOST_THINGS", "FitError", "InvalidOrder", "InvalidThing", "InvalidNumber", "InvalidLot", "TooMany"] : List Str)
end K03
/-! K03: the head (printed by genhead.py). -/
namespace K03
open L2 PySem RF PySem.Spec PyProof.Rows
theorem headrun (w : World) : HandSHeadRun.RunEq R (PySem.W.view R.prog [59]) hk ob 4000 names w := by
  intro os
  kernel_rfl
theorem fitG {w : World} {K : PySem.W.Frag} {h : Heap} {mg : Str → Option Value} {fa : Addr} (KX : K.In h) (hst : StatAt h) (G : h.Ns mainGlobals mg) (c : He.SaysX faL fnL [] tf ex w h K) (hmg : mg ("law" : Str) = some (.ref fa))
    (math : ∀ s : List Int, s.length ≤ 63 → (∀ z ∈ s, Builtin.Int.intBits z ≤ 1048576) → run s = .rt (.z (.bl true)) []) : ∃ (K : PySem.W.Frag) (c T : Addr), K.In h ∧ StatAt h ∧ h.get? T = some { cls := .none, data := .fields #[] } ∧ K.lookup T = none ∧ PySem.W.CodeHd h c T ∧ LawG PySem.Challenge.rw_risingfits_k03_orders_told.prog w K (20 + 3) 63 "script" mg fa c T :=
  law_at (body := bodyL) (ds := ds) (kw := kw) (ks := ks) (cls := cls) (fit := fit) (lamB := lamB) (T := T) (stL := stL) (nL := nL) (F := d_law) (Wf := 5000) (n := 20) KX hst G c (List.mem_singleton.mpr rfl) List.mem_cons_self List.mem_cons_self hmg
    (fun e m => List.mem_cons_of_mem _ (List.mem_map_of_mem m)) (fun e m => List.mem_cons_of_mem _ (List.mem_append_left _ (List.mem_map.mpr ⟨e, m, rfl⟩)))
    (fun x m => List.mem_cons_of_mem _ (List.mem_append_right _ (List.mem_append_left _ (List.mem_map_of_mem m)))) (fun q m => List.mem_cons_of_mem _ (List.mem_append_right _ (List.mem_append_right _ (List.mem_append_left _ (List.mem_map.mpr ⟨q, m, rfl⟩)))))
    (fun x m => List.mem_cons_of_mem _ (List.mem_append_right _ (List.mem_append_right _ (List.mem_append_right _ (List.mem_append_left _ (List.mem_map_of_mem m)))))) (fun x e => List.mem_cons_of_mem _ (List.mem_append_right _ (List.mem_append_right _ (List.mem_append_right _ (List.mem_append_right _ (List.mem_map_of_mem (by rw [e]; exact List.mem_singleton.mpr rfl))))))) (by decide +kernel)
    ok_all ok_T (fun K f e fd => b_all f e fd) ok_lam (fun q k ps sc b h => ok_free k ps sc b h) ok_sc ok_law rfl rfl (fun _ _ _ _ _ _ us hl => match us, hl with | [_], _ => rfl) math
end K03
section
open PySem PySem.Calls PySem.W PyProof.Rows
theorem K03.holds_of (math : ∀ s : List Int, s.length ≤ 63 → (∀ z ∈ s, Builtin.Int.intBits z ≤ 1048576) → K03.run s = .rt (.z (.bl true)) []) : PySem.Challenge.rw_risingfits_k03_orders_told.Holds := by
  w_on; o_law
  refine HandSHeadRun.head_any (r := OpenLaw.row PySem.Challenge.rw_risingfits_k03_orders_told) (q := view (OpenLaw.row PySem.Challenge.rw_risingfits_k03_orders_told).prog [59]) (H := K03.hk) (ob := K03.ob) (M := 4000) (loose := K03.names) (d := HandSHeadRun.topDef (OpenLaw.row PySem.Challenge.rw_risingfits_k03_orders_told).prog 59) (kwd := []) K03.ob_eq
    (by kernel_rfl) (fun s => by kernel_rfl) K03.headrun (by kernel_rfl) (by kernel_rfl) (by kernel_rfl) (by rfl) (by first | assumption | decide +kernel) (by decide +kernel) ⟨rfl, rfl, rfl, rfl, rfl, by decide +kernel⟩ ?hw ?hc
  case hw => w_witness2
  case hc =>
    refine RF.walkG (l := PySem.Challenge.rw_risingfits_k03_orders_told) (n := 63) (k := 20 + 3) (x := "script") rfl (by decide) (by kernel_rfl) ⟨rfl, by decide, by decide⟩ ?F
    intro w mg fa h Y G hmg0
    obtain ⟨⟨K, KX, c⟩, hst⟩ := Y
    have hmg : mg ("law" : PySem.Str) = some (.ref fa) := by
      have e : (HandSHeadRun.topDef (OpenLaw.row PySem.Challenge.rw_risingfits_k03_orders_told).prog 59).name = ("law" : PySem.Str) := by kernel_rfl
      rw [← e]
      exact hmg0
    exact K03.fitG KX hst G c hmg math
/-! K03m: the defs of the law, folded (printed by genm.py). -/
end
namespace K03
open RF
abbrev Wf : Nat := 5000
def g (n f : Nat) (os : List O) : CR := RF.G T Wf n f os
def cc (n : Nat) : Cfg := ⟨RF.G T Wf n, sigT T⟩
theorem cc_call (n f : Nat) (os : List O) : (cc n).call f os = g n f os := rfl
theorem at_is_whole (n : Nat) (os : List O) : g (n + 1) f_is_whole os = runF (cc n) Wf d_is_whole os := rfl
theorem sg_is_whole (n : Nat) : (cc n).sig f_is_whole = [false] := rfl
theorem at_is_count (n : Nat) (os : List O) : g (n + 1) f_is_count os = runF (cc n) Wf d_is_count os := rfl
theorem sg_is_count (n : Nat) : (cc n).sig f_is_count = [false] := rfl
theorem at_is_below (n : Nat) (os : List O) : g (n + 1) f_is_below os = runF (cc n) Wf d_is_below os := rfl
theorem sg_is_below (n : Nat) : (cc n).sig f_is_below = [false, false] := rfl
theorem at_is_pair (n : Nat) (os : List O) : g (n + 1) f_is_pair os = runF (cc n) Wf d_is_pair os := rfl
theorem sg_is_pair (n : Nat) : (cc n).sig f_is_pair = [false, false] := rfl
theorem at_reach_of (n : Nat) (os : List O) : g (n + 1) f_reach_of os = runF (cc n) Wf d_reach_of os := rfl
theorem sg_reach_of (n : Nat) : (cc n).sig f_reach_of = [false, false] := rfl
theorem at_is_order_of (n : Nat) (os : List O) : g (n + 1) f_is_order_of os = runF (cc n) Wf d_is_order_of os := rfl
theorem sg_is_order_of (n : Nat) : (cc n).sig f_is_order_of = [false, false] := rfl
theorem at_check_order (n : Nat) (os : List O) : g (n + 1) f_check_order os = runF (cc n) Wf d_check_order os := rfl
theorem sg_check_order (n : Nat) : (cc n).sig f_check_order = [false, false] := rfl
theorem at_is_size (n : Nat) (os : List O) : g (n + 1) f_is_size os = runF (cc n) Wf d_is_size os := rfl
theorem sg_is_size (n : Nat) : (cc n).sig f_is_size = [false] := rfl
theorem at_check_size (n : Nat) (os : List O) : g (n + 1) f_check_size os = runF (cc n) Wf d_check_size os := rfl
theorem sg_check_size (n : Nat) : (cc n).sig f_check_size = [false] := rfl
theorem at_check_case (n : Nat) (os : List O) : g (n + 1) f_check_case os = runF (cc n) Wf d_check_case os := rfl
theorem sg_check_case (n : Nat) : (cc n).sig f_check_case = [false, false] := rfl
theorem at_check_thing (n : Nat) (os : List O) : g (n + 1) f_check_thing os = runF (cc n) Wf d_check_thing os := rfl
theorem sg_check_thing (n : Nat) : (cc n).sig f_check_thing = [false, false] := rfl
theorem at_stands_before (n : Nat) (os : List O) : g (n + 1) f_stands_before os = runF (cc n) Wf d_stands_before os := rfl
theorem sg_stands_before (n : Nat) : (cc n).sig f_stands_before = [false, false, false, false] := rfl
theorem at_all_pairs_of (n : Nat) (os : List O) : g (n + 1) f_all_pairs_of os = runF (cc n) Wf d_all_pairs_of os := rfl
theorem sg_all_pairs_of (n : Nat) : (cc n).sig f_all_pairs_of = [false, false] := rfl
theorem at_all_pairs (n : Nat) (os : List O) : g (n + 1) f_all_pairs os = runF (cc n) Wf d_all_pairs os := rfl
theorem sg_all_pairs (n : Nat) : (cc n).sig f_all_pairs = [false, false] := rfl
theorem at_plain_pairs_of (n : Nat) (os : List O) : g (n + 1) f_plain_pairs_of os = runF (cc n) Wf d_plain_pairs_of os := rfl
theorem sg_plain_pairs_of (n : Nat) : (cc n).sig f_plain_pairs_of = [false, false] := rfl
theorem at_plain_pairs (n : Nat) (os : List O) : g (n + 1) f_plain_pairs os = runF (cc n) Wf d_plain_pairs os := rfl
theorem sg_plain_pairs (n : Nat) : (cc n).sig f_plain_pairs = [false, false] := rfl
theorem at_is_lot_of (n : Nat) (os : List O) : g (n + 1) f_is_lot_of os = runF (cc n) Wf d_is_lot_of os := rfl
theorem sg_is_lot_of (n : Nat) : (cc n).sig f_is_lot_of = [false, false] := rfl
theorem at_upper_lots_of (n : Nat) (os : List O) : g (n + 1) f_upper_lots_of os = runF (cc n) Wf d_upper_lots_of os := rfl
theorem sg_upper_lots_of (n : Nat) : (cc n).sig f_upper_lots_of = [false, false] := rfl
theorem at_running_order (n : Nat) (os : List O) : g (n + 1) f_running_order os = runF (cc n) Wf d_running_order os := rfl
theorem sg_running_order (n : Nat) : (cc n).sig f_running_order = [false, false] := rfl
theorem at_is_free (n : Nat) (os : List O) : g (n + 1) f_is_free os = runF (cc n) Wf d_is_free os := rfl
theorem sg_is_free (n : Nat) : (cc n).sig f_is_free = [false, false, false] := rfl
theorem at_upper_lots (n : Nat) (os : List O) : g (n + 1) f_upper_lots os = runF (cc n) Wf d_upper_lots os := rfl
theorem sg_upper_lots (n : Nat) : (cc n).sig f_upper_lots = [false, false] := rfl
theorem at_in_a_row (n : Nat) (os : List O) : g (n + 1) f_in_a_row os = runF (cc n) Wf d_in_a_row os := rfl
theorem sg_in_a_row (n : Nat) : (cc n).sig f_in_a_row = [false, false] := rfl
theorem at_closed_up (n : Nat) (os : List O) : g (n + 1) f_closed_up os = runF (cc n) Wf d_closed_up os := rfl
theorem sg_closed_up (n : Nat) : (cc n).sig f_closed_up = [false, false, false] := rfl
theorem at_row_order_of (n : Nat) (os : List O) : g (n + 1) f_row_order_of os = runF (cc n) Wf d_row_order_of os := rfl
theorem sg_row_order_of (n : Nat) : (cc n).sig f_row_order_of = [false] := rfl
theorem at_row_order (n : Nat) (os : List O) : g (n + 1) f_row_order os = runF (cc n) Wf d_row_order os := rfl
theorem sg_row_order (n : Nat) : (cc n).sig f_row_order = [false] := rfl
theorem at_grid_order (n : Nat) (os : List O) : g (n + 1) f_grid_order os = runF (cc n) Wf d_grid_order os := rfl
theorem sg_grid_order (n : Nat) : (cc n).sig f_grid_order = [false, false] := rfl
theorem at__law_hash (n : Nat) (os : List O) : g (n + 1) f__law_hash os = runF (cc n) Wf d__law_hash os := rfl
theorem sg__law_hash (n : Nat) : (cc n).sig f__law_hash = [false, false] := rfl
theorem at__law_random (n : Nat) (os : List O) : g (n + 1) f__law_random os = runF (cc n) Wf d__law_random os := rfl
theorem sg__law_random (n : Nat) : (cc n).sig f__law_random = [true, false] := rfl
theorem at__law_cell (n : Nat) (os : List O) : g (n + 1) f__law_cell os = runF (cc n) Wf d__law_cell os := rfl
theorem sg__law_cell (n : Nat) : (cc n).sig f__law_cell = [false, false] := rfl
theorem at__law_generator (n : Nat) (os : List O) : g (n + 1) f__law_generator os = runF (cc n) Wf d__law_generator os := rfl
theorem sg__law_generator (n : Nat) : (cc n).sig f__law_generator = [false, false] := rfl
theorem at__law_drawn_order (n : Nat) (os : List O) : g (n + 1) f__law_drawn_order os = runF (cc n) Wf d__law_drawn_order os := rfl
theorem sg__law_drawn_order (n : Nat) : (cc n).sig f__law_drawn_order = [true, false] := rfl
theorem at__law_same (n : Nat) (os : List O) : g (n + 1) f__law_same os = runF (cc n) Wf d__law_same os := rfl
theorem sg__law_same (n : Nat) : (cc n).sig f__law_same = [false, false] := rfl
theorem at__law_call (n : Nat) (os : List O) : g (n + 1) f__law_call os = runF (cc n) Wf d__law_call os := rfl
theorem sg__law_call (n : Nat) : (cc n).sig f__law_call = [false, false] := rfl
theorem at__law_mark (n : Nat) (os : List O) : g (n + 1) f__law_mark os = runF (cc n) Wf d__law_mark os := rfl
theorem sg__law_mark (n : Nat) : (cc n).sig f__law_mark = [false, false] := rfl
theorem at__law_raised (n : Nat) (os : List O) : g (n + 1) f__law_raised os = runF (cc n) Wf d__law_raised os := rfl
theorem sg__law_raised (n : Nat) : (cc n).sig f__law_raised = [false, false, false, false] := rfl
theorem at__law_refused (n : Nat) (os : List O) : g (n + 1) f__law_refused os = runF (cc n) Wf d__law_refused os := rfl
theorem sg__law_refused (n : Nat) : (cc n).sig f__law_refused = [false, false, false, false, false] := rfl
theorem at__law_all_refused (n : Nat) (os : List O) : g (n + 1) f__law_all_refused os = runF (cc n) Wf d__law_all_refused os := rfl
theorem sg__law_all_refused (n : Nat) : (cc n).sig f__law_all_refused = [false, false, false, false] := rfl
theorem at__law_before (n : Nat) (os : List O) : g (n + 1) f__law_before os = runF (cc n) Wf d__law_before os := rfl
theorem sg__law_before (n : Nat) : (cc n).sig f__law_before = [false, false] := rfl
theorem at__law_all_pairs (n : Nat) (os : List O) : g (n + 1) f__law_all_pairs os = runF (cc n) Wf d__law_all_pairs os := rfl
theorem sg__law_all_pairs (n : Nat) : (cc n).sig f__law_all_pairs = [false, false] := rfl
theorem at__law_uppers (n : Nat) (os : List O) : g (n + 1) f__law_uppers os = runF (cc n) Wf d__law_uppers os := rfl
theorem sg__law_uppers (n : Nat) : (cc n).sig f__law_uppers = [false, false] := rfl
theorem at__law_drawn_order_of (n : Nat) (os : List O) : g (n + 1) f__law_drawn_order_of os = runF (cc n) Wf d__law_drawn_order_of os := rfl
theorem sg__law_drawn_order_of (n : Nat) : (cc n).sig f__law_drawn_order_of = [true, false] := rfl
theorem at__law_wrong_orders (n : Nat) (os : List O) : g (n + 1) f__law_wrong_orders os = runF (cc n) Wf d__law_wrong_orders os := rfl
theorem sg__law_wrong_orders (n : Nat) : (cc n).sig f__law_wrong_orders = [false, false] := rfl
theorem at__law_odd_ones (n : Nat) (os : List O) : g (n + 1) f__law_odd_ones os = runF (cc n) Wf d__law_odd_ones os := rfl
theorem sg__law_odd_ones (n : Nat) : (cc n).sig f__law_odd_ones = [false] := rfl
theorem at__law_is_kind (n : Nat) (os : List O) : g (n + 1) f__law_is_kind os = runF (cc n) Wf d__law_is_kind os := rfl
theorem sg__law_is_kind (n : Nat) : (cc n).sig f__law_is_kind = [false, false] := rfl
theorem at__law_in_a_row (n : Nat) (os : List O) : g (n + 1) f__law_in_a_row os = runF (cc n) Wf d__law_in_a_row os := rfl
theorem sg__law_in_a_row (n : Nat) : (cc n).sig f__law_in_a_row = [false, false] := rfl
theorem at__law_grid_right (n : Nat) (os : List O) : g (n + 1) f__law_grid_right os = runF (cc n) Wf d__law_grid_right os := rfl
theorem sg__law_grid_right (n : Nat) : (cc n).sig f__law_grid_right = [true] := rfl
theorem at__law_case_right (n : Nat) (os : List O) : g (n + 1) f__law_case_right os = runF (cc n) Wf d__law_case_right os := rfl
theorem sg__law_case_right (n : Nat) : (cc n).sig f__law_case_right = [false, false] := rfl
theorem at_law (n : Nat) (os : List O) : g (n + 1) f_law os = runF (cc n) Wf d_law os := rfl
theorem sg_law (n : Nat) : (cc n).sig f_law = [false] := rfl
end K03
/-! K03b: calls of the law's defs. -/
namespace K03
open RF MX
theorem rtn {m f : Nat} {es : Xs} {e e1 : RF.Env} {o : O} (ds : List D) (hs : (cc m).sig f = List.replicate ds.length false) (h : evalArgs (cc m) es (List.replicate ds.length false) e = .ok (ds.map .val) e1) (hc : g m f (ds.map .z) = ret o) (cl : o.clean = true) : evalE (cc m) (.call true f es) e = .ok o e := call_rt ds hs h hc cl
theorem rtx {m f : Nat} {es : Xs} {e e1 : RF.Env} {c : Nat} {us : List D} (ds : List D) (hs : (cc m).sig f = List.replicate ds.length false) (h : evalArgs (cc m) es (List.replicate ds.length false) e = .ok (ds.map .val) e1) (hc : g m f (ds.map .z) = .ex c us) : evalE (cc m) (.call true f es) e = .ex c us := call_ex ds hs h hc
theorem rtv {m f : Nat} {es : Xs} {e : RF.Env} {o : O} (ds : List D) (hs : (cc m).sig f = List.replicate ds.length false) (h : evalArgs (cc m) es (List.replicate ds.length false) e = .ok (ds.map .val) e) (hc : g m f (ds.map .z) = ret o) : evalE (cc m) (.call true f es) e = .ok o e := by
  rw [evalE, hs, h]
  simp only [RF.R.bind_ok]
  rw [do_val ds hs]
  show back0 true e e (g m f (ds.map .z)) = _
  rw [hc]
  simp only [ret, back0]
  split <;> rfl
theorem rt1 {m f i : Nat} {d : D} {o : O} {e : RF.Env} (hc : g m f [.z d] = ret o) (hs : (cc m).sig f = [false]) (hi : getE e i = some (.z d)) (cl : o.clean = true) : evalE (cc m) (.call true f (.cons (.v i) .nil)) e = .ok o e := rtn [d] hs (args1 hi) hc cl
theorem rt2 {m f i j : Nat} {a b : D} {o : O} {e : RF.Env} (hc : g m f [.z a, .z b] = ret o) (hs : (cc m).sig f = [false, false]) (hi : getE e i = some (.z a)) (hj : getE e j = some (.z b)) (cl : o.clean = true) : evalE (cc m) (.call true f (.cons (.v i) (.cons (.v j) .nil))) e = .ok o e := rtn [a, b] hs (args2 hi hj) hc cl
/-- by name: only names as arguments -/
theorem callk {m f : Nat} {ks : Xs} {pm : List Nat} {us : List O} {ds : List D} {o : O} {e : RF.Env} (hk : evalEs (cc m) ks e = .ok us e) (hp : permA [] us pm = ds.map .val) (hs : (cc m).sig f = List.replicate ds.length false) (hc : g m f (ds.map .z) = ret o) : evalE (cc m) (.callk f .nil ks pm) e = .ok o e := by
  rw [evalE, es_0]
  simp only [RF.R.bind_ok, hk, hp]
  rw [do_val ds hs]
  show back0 true e e (g m f (ds.map .z)) = _
  rw [hc]
  simp only [ret, back0]
  split <;> rfl
/-! ### a generator -/
theorem hash_eq (n : Nat) (a m : Int) (h1 : Sm 31 a) (h2 : Sm 40 m) : ∃ h, g (n + 1) f__law_hash [zi a, zi m] = ret (zi h) ∧ 0 ≤ h ∧ h < 2147483647 := by
  have l1 : Sm 21 1140671 := by unfold Sm; decide
  have l2 : Sm 25 27644437 := by unfold Sm; decide
  have l3 : Sm 8 131 := by unfold Sm; decide
  have l4 : Sm 16 62089 := by unfold Sm; decide
  have l5 : Sm 16 48271 := by unfold Sm; decide
  have m1 := mulOk_of h1 l1 (by decide)
  have m2 := mulOk_of l2 h2 (by decide)
  have m3 := mulOk_of (l2.mul h2) h2 (by decide)
  have m4 := mulOk_of l3 h2 (by decide)
  have r1 := fmod_range (a := a * 1140671 + 27644437 * m * m + 131 * m + 19) (b := 2147483629) (by decide)
  generalize ex : (a * 1140671 + 27644437 * m * m + 131 * m + 19).fmod 2147483629 = x at r1
  have sx : Sm 31 x := by unfold Sm; omega
  have m5 := mulOk_of sx sx (by decide)
  have m6 := mulOk_of l4 h2 (by decide)
  have r2 := fmod_range (a := x * x + 62089 * m + 32416187) (b := 2147483587) (by decide)
  generalize ey : (x * x + 62089 * m + 32416187).fmod 2147483587 = y at r2
  have sy : Sm 31 y := by unfold Sm; omega
  have m7 := mulOk_of sy l5 (by decide)
  have r3 := fmod_range (a := y * 48271) (b := 2147483647) (by decide)
  refine ⟨_, ?_, r3⟩
  rw [at__law_hash]
  simp [runF, d__law_hash, evalSs, evalS, evalE, evalVs, Out.ofR, viewE, getE, binop, bltV, RF.R.bind, O.toD, RF.finish, outs?, ofOpt, m1, m2, m3, m4, m5, m6, m7, ex, ey]
/-- a generator -/
structure Gn (k : Nat) (o : O) : Prop where
  ex : ∃ a b c : Int, o = .l [zi a, zi b, zi c] ∧ 0 ≤ b ∧ b < 2147483647 ∧ 0 ≤ c ∧ c ≤ k
def bdR (n : Nat) : RF.Env → Out := fun z => evalSs (cc n) Wf (.cons (.sto 0 (.n 2) (.bin .add (.ix (.v 0) (.n 2)) (.n 1)))
    (.cons (.set 2 (.bin .add (.bin .mul (.v 2) (.n 2147483587)) (.call true f__law_hash (.cons (.ix (.v 0) (.n 1)) (.cons (.ix (.v 0) (.n 2)) .nil))))) .nil)) z
theorem bdR_eq (n e : Nat) (a b c x d : Int) (w : Option O) (h1 : 0 ≤ b) (h2 : b < 2147483647) (h3 : 0 ≤ c) (h4 : c + 1 < 1000000) (h5 : Sm e d) (h6 : 32 ≤ e) (h7 : e < 900) : ∃ d', bdR (n + 1) [some (.l [zi a, zi b, zi c]), some (zi x), some (zi d), w] = .nx [some (.l [zi a, zi b, zi (c + 1)]), some (zi x), some (zi d'), w] ∧ Sm (e + 33) d' := by
  obtain ⟨h, hh, q1, q2⟩ := hash_eq n b (c + 1) (by unfold Sm; omega) (by unfold Sm; omega)
  have l : Sm 32 2147483587 := by unfold Sm; decide
  have m := mulOk_of h5 l (by omega)
  refine ⟨d * 2147483587 + h, ?_, ?_⟩
  · simp [bdR, evalSs, evalS, evalE, RF.evalArgs, viewE, getE, RF.R.bind, O.toD, O.toDs, O.flat, O.isZ, pureX, L2.atI, L2.ixN, ofOpt, binop, Out.ofR, doCall, sg__law_hash, cc_call, hh, Ar.fetch, Ar.slots, Ar.isRef, back0, O.clean, D.lf, m]
  · have : Sm (e + 32) h := (show Sm 32 h by unfold Sm; omega).mono (by omega)
    exact (h5.mul l).add this
theorem forR (n : Nat) (a b x : Int) (h1 : 0 ≤ b) (h2 : b < 2147483647) : ∀ (k e : Nat) (lo c d : Int) (w : Option O), 0 ≤ c → c + k < 1000000 → Sm e d → 32 ≤ e → e + 33 * k < 900 →
    ∃ d' w', evalFor (.nm 3) (bdR (n + 1)) (rangeL lo 1 k) [some (.l [zi a, zi b, zi c]), some (zi x), some (zi d), w] = .nx [some (.l [zi a, zi b, zi (c + k)]), some (zi x), some (zi d'), w']
  | 0, e, lo, c, d, w, _, _, _, _, _ => ⟨d, w, by simp [rangeL, evalFor]⟩
  | k + 1, e, lo, c, d, w, h3, h4, h5, h6, h7 => by
    obtain ⟨d1, e1, s1⟩ := bdR_eq n e a b c x d (some (zi lo)) h1 h2 h3 (by omega) h5 h6 (by omega)
    obtain ⟨d2, w2, e2⟩ := forR n a b x h1 h2 k (e + 33) (lo + 1) (c + 1) d1 (some (zi lo)) (by omega) (by omega) s1 (by omega) (by omega)
    refine ⟨d2, w2, ?_⟩
    rw [rangeL, evalFor]
    show (match bdR (n + 1) [some (.l [zi a, zi b, zi c]), some (zi x), some (zi d), some (zi lo)] with | .nx env2 => evalFor (.nm 3) (bdR (n + 1)) (rangeL (lo + 1) 1 k) env2 | r => r) = _
    rw [e1]
    show evalFor (.nm 3) (bdR (n + 1)) (rangeL (lo + 1) 1 k) [some (.l [zi a, zi b, zi (c + 1)]), some (zi x), some (zi d1), some (zi lo)] = _
    rw [e2, show c + 1 + (k : Int) = c + ((k + 1 : Nat) : Int) by omega]
theorem rnd (n k : Nat) (o : O) (x : Int) (ho : Gn k o) (hk : k < 900000) (h0 : 0 < x) (hx : Sm 200 x) : ∃ r o', g (n + 2) f__law_random [o, zi x] = .rt (zi r) [o'] ∧ 0 ≤ r ∧ r < x ∧ Gn (k + 10) o' := by
  obtain ⟨a, b, c, rfl, h1, h2, h3, h4⟩ := ho.ex
  have hne : x ≠ 0 := by omega
  rw [at__law_random]
  by_cases ha : 0 < a
  · obtain ⟨r1, r2⟩ := fmod_range (a := a) h0
    have d := divOk_of hx (by omega) hne
    refine ⟨a.fmod x, .l [zi (a.fdiv x), zi b, zi c], ?_, r1, r2, ⟨_, _, _, rfl, h1, h2, h3, by omega⟩⟩
    simp [runF, d__law_random, evalSs, evalS, evalE, evalVs, Out.ofR, viewE, getE, binop, cmpop, bltV, RF.R.bind, O.toD, O.toDs, O.flat, O.isZ, pureX, pureXs, L2.atI, L2.ixN, RF.finish, outs?, ofOpt, ha, hne, d]
  · obtain ⟨q1, q2⟩ := bits_le hx
    have fd : ((PySem.Builtin.Int.intBits x : Nat) : Int).fdiv 30 = ((PySem.Builtin.Int.intBits x : Nat) : Int) / 30 := Int.fdiv_eq_ediv_of_nonneg _ (by decide)
    have d30 : divOk 30 = true := by decide +kernel
    obtain ⟨t, ht⟩ : ∃ t : Nat, 1 + ((PySem.Builtin.Int.intBits x : Nat) : Int).fdiv 30 = (t : Int) ∧ t ≤ 8 := ⟨(1 + ((PySem.Builtin.Int.intBits x : Nat) : Int).fdiv 30).toNat, by rw [fd]; omega, by rw [fd]; omega⟩
    have rg : rngOk (t : Int) = true := by unfold rngOk; rw [decide_eq_true (show -(2 ^ 40) < (t : Int) by omega), decide_eq_true (show (t : Int) < 2 ^ 40 by omega)]; rfl
    obtain ⟨d', w', lp⟩ := forR n a b x h1 h2 t 32 0 c 0 none h3 (by omega) (by unfold Sm; decide) (by omega) (by omega)
    have lp : evalFor (.nm 3) (fun e => evalSs (cc (n + 1)) Wf (.cons (.sto 0 (.n 2) (.bin .add (.ix (.v 0) (.n 2)) (.n 1)))
      (.cons (.set 2 (.bin .add (.bin .mul (.v 2) (.n 2147483587)) (.call true f__law_hash (.cons (.ix (.v 0) (.n 1)) (.cons (.ix (.v 0) (.n 2)) .nil))))) .nil)) e) (rangeL 0 1 t) [some (.l [zi a, zi b, zi c]), some (zi x), some (zi 0), none] = .nx [some (.l [zi a, zi b, zi (c + t)]), some (zi x), some (zi d'), w'] := lp
    obtain ⟨r1, r2⟩ := fmod_range (a := d') h0
    refine ⟨d'.fmod x, .l [zi a, zi b, zi (c + t)], ?_, r1, r2, ⟨_, _, _, rfl, h1, h2, by omega, by omega⟩⟩
    have it : evalIt (cc (n + 1)) (.rng1 (.bin .add (.n 1) (.bin .fdiv (.bits (.v 1)) (.n 30)))) [some (.l [zi a, zi b, zi c]), some (zi x), some (zi 0), none] = .ok (rangeL 0 1 t) [some (.l [zi a, zi b, zi c]), some (zi x), some (zi 0), none] := by
      simp [evalIt, evalE, viewE, getE, RF.R.bind, binop, ofOpt, O.toD, d30, ht.1, rg]
    rw [run_eq (h := rfl)]
    have t1 : evalS (cc (n + 1)) Wf (.ite (.cmp .gt (.ix (.v 0) (.n 0)) (.n 0)) (.cons (.set 2 (.bin .mod (.blt .int (.cons (.ix (.v 0) (.n 0)) .nil)) (.v 1))) (.cons (.sto 0 (.n 0) (.bin .fdiv (.ix (.v 0) (.n 0)) (.v 1))) (.cons (.ret (.v 2)) .nil))) .nil) [some (.l [zi a, zi b, zi c]), some (zi x), none, none] = .nx [some (.l [zi a, zi b, zi c]), some (zi x), none, none] := by
      simp [evalS, evalSs, evalE, Out.ofR, viewE, getE, cmpop, RF.R.bind, O.toD, O.toDs, O.flat, O.isZ, pureX, L2.atI, L2.ixN, ofOpt, ha]
    show RF.finish [true, false] (evalSs (cc (n + 1)) Wf (.cons _ (.cons (.set 2 (.n 0)) (.cons (.for (.nm 3) _ _) (.cons (.ret (.bin .mod (.blt .int (.cons (.v 2) .nil)) (.v 1))) .nil)))) [some (.l [zi a, zi b, zi c]), some (zi x), none, none]) = _
    rw [evalSs, t1]
    show RF.finish [true, false] (evalSs (cc (n + 1)) Wf (.cons (.for (.nm 3) _ _) (.cons (.ret (.bin .mod (.blt .int (.cons (.v 2) .nil)) (.v 1))) .nil)) [some (.l [zi a, zi b, zi c]), some (zi x), some (zi 0), none]) = _
    rw [evalSs, evalS, it]
    simp only []
    rw [lp]
    simp [evalSs, evalS, evalE, evalVs, Out.ofR, viewE, getE, binop, bltV, RF.R.bind, O.toD, RF.finish, outs?, ofOpt, hne]
theorem cell_eq (n : Nat) (s : List Int) (i : Nat) : ∃ z, g (n + 1) f__law_cell [.z (.scr s), zi i] = ret (zi z) := by
  rw [at__law_cell]
  by_cases h : i < s.length
  · refine ⟨s[i], ?_⟩
    simp [runF, d__law_cell, RF.finish, evalSs, evalS, evalE, evalEs, frz, RF.evalArgs, evalVs, evalAnd, evalOr, bltV, Out.ofR, Out.ofO, setAll, viewE, getE, RF.R.bind, doCall, cc_call, Ar.fetch, Ar.slots, Ar.isRef, back0, back1, permA, O.toD, O.toDs, outs?, ofOpt, O.isZ, O.flat, O.clean, O.cleans, D.lf, D.lfs, pureX, pureXs, binop, L2.atI, L2.ixN, sg__law_random, sg__law_same, cmpop, h, L2.atI, L2.ixN]
  · refine ⟨(cutL s none (some 1)).sum.fmod 1000003, ?_⟩
    have im : ints? (List.map (O.toD ∘ fun n => O.z (D.int n)) (cutL s none (some 1))) = some (cutL s none (some 1)) := ints_map (cutL s none (some 1))
    simp [runF, d__law_cell, RF.finish, evalSs, evalS, evalE, evalEs, frz, RF.evalArgs, evalVs, evalAnd, evalOr, bltV, Out.ofR, Out.ofO, setAll, viewE, getE, RF.R.bind, doCall, cc_call, Ar.fetch, Ar.slots, Ar.isRef, back0, back1, permA, O.toD, O.toDs, outs?, ofOpt, O.isZ, O.flat, O.clean, O.cleans, D.lf, D.lfs, pureX, pureXs, binop, L2.atI, L2.ixN, sg__law_random, sg__law_same, cmpop, h, evalPart, O.toDs_map, im]
theorem powC : powOk 10 18 = true ∧ powOk 10 60 = true ∧ powOk (10 ^ (60 : Int).toNat) 10 = true := by decide +kernel
theorem gen_eq (n : Nat) (s : List Int) (i : Nat) (hi : i < 3) : ∃ o, g (n + 2) f__law_generator [.z (.scr s), zi i] = ret o ∧ Gn 2000 o := by
  obtain ⟨z, e⟩ := cell_eq n s i
  obtain ⟨p1, p2, p3⟩ := powC
  obtain ⟨r1, r2⟩ := fmod_range (a := z) (b := 2147483647) (by decide)
  rw [at__law_generator]
  have l : Sm 10 1000 := by unfold Sm; decide
  have m : mulOk 1000 (i : Int) = true := mulOk_of l (show Sm 2 (i : Int) by unfold Sm; omega) (by decide)
  simp only [Int.reduceToNat, Int.reducePow] at p3
  refine ⟨.l [zi ((if (0 : Int) > z - 10 ^ (18 : Int).toNat then 0 else z - 10 ^ (18 : Int).toNat).fmod ((10 ^ (60 : Int).toNat) ^ (10 : Int).toNat)), zi (z.fmod 2147483647), zi (1000 * i)], ?_, ⟨_, _, _, rfl, r1, r2, by omega, (by show 1000 * (i : Int) ≤ ((2000 : Nat) : Int); omega)⟩⟩
  simp [runF, d__law_generator, RF.finish, evalSs, evalS, evalE, evalEs, frz, RF.evalArgs, evalVs, evalAnd, evalOr, bltV, Out.ofR, Out.ofO, setAll, viewE, getE, RF.R.bind, doCall, cc_call, Ar.fetch, Ar.slots, Ar.isRef, back0, back1, permA, O.toD, O.toDs, outs?, ofOpt, O.isZ, O.flat, O.clean, O.cleans, D.lf, D.lfs, pureX, pureXs, binop, L2.atI, L2.ixN, sg__law_random, sg__law_same, sg__law_cell, e, p1, p2, p3, m]
theorem call_ref {m f i : Nat} {E : RF.X} {env : RF.Env} {a b c a' b' c' : Int} {u r : O} (hs : (cc m).sig f = [true, false]) (hi : getE env i = some (.l [zi a, zi b, zi c])) (hE : evalE (cc m) E env = .ok u env) (hg : g m f [.l [zi a, zi b, zi c], .z u.toD] = .rt r [.l [zi a', zi b', zi c']]) : evalE (cc m) (.call false f (.cons (.v i) (.cons E .nil))) env = .ok r (env.set i (some (.l [zi a', zi b', zi c']))) := by
  have a1 : evalArgs (cc m) (.cons (.v i) (.cons E .nil)) [true, false] env = .ok [.ref i, .val u.toD] env := by
    rw [evalArgs, hi]
    simp only [arg_c hE arg_0, RF.R.bind_ok]
  rw [evalE, hs, a1]
  simp only [RF.R.bind_ok]
  unfold doCall
  rw [if_pos (by rw [hs]; rfl)]
  have f1 : Ar.fetch env [.ref i, .val u.toD] = some [.l [zi a, zi b, zi c], .z u.toD] := by
    simp [Ar.fetch, hi, O.isZ]
  rw [f1]
  show back1 env i (g m f _) = _
  rw [hg]
  rfl
theorem rnd_in {n k i : Nat} {E : RF.X} {env : RF.Env} {o : O} {x : Int} (hi : getE env i = some o) (ho : Gn k o) (hk : k < 900000) (h0 : 0 < x) (hx : Sm 200 x) (hE : evalE (cc (n + 2)) E env = .ok (zi x) env) : ∃ r o', evalE (cc (n + 2)) (.call false f__law_random (.cons (.v i) (.cons E .nil))) env = .ok (zi r) (env.set i (some o')) ∧ 0 ≤ r ∧ r < x ∧ Gn (k + 10) o' := by
  obtain ⟨r, o', h1, h2, h3, h4⟩ := rnd n k o x ho hk h0 hx
  obtain ⟨a, b, c, rfl, _⟩ := ho.ex
  obtain ⟨a', b', c', e, q⟩ := h4.ex
  subst e
  exact ⟨r, _, call_ref (sg__law_random _) hi hE h1, h2, h3, ⟨_, _, _, rfl, q⟩⟩
end K03
/-! K03p: orders, in plain Lean. -/
namespace K03
open RF
abbrev Ps := List (Nat × Nat)
/-- by chains of pairs -/
inductive Rc (P : Ps) : Nat → Nat → Prop
  | one {i j : Nat} : (i, j) ∈ P → Rc P i j
  | step {i k j : Nat} : (i, k) ∈ P → Rc P k j → Rc P i j
theorem Rc.trans {P : Ps} {i k j : Nat} (h : Rc P i k) (h2 : Rc P k j) : Rc P i j := by
  induction h with
  | one h => exact .step h h2
  | step h _ ih => exact .step h (ih h2)
/-- .. with middles below m -/
inductive Rm (P : Ps) (m : Nat) : Nat → Nat → Prop
  | one {i j : Nat} : (i, j) ∈ P → Rm P m i j
  | step {i k j : Nat} : (i, k) ∈ P → k < m → Rm P m k j → Rm P m i j
theorem Rm.mono {P : Ps} {m m' i j : Nat} (h : Rm P m i j) (l : m ≤ m') : Rm P m' i j := by
  induction h with
  | one h => exact .one h
  | step h k _ ih => exact .step h (by omega) ih
theorem Rm.join' {P : Ps} {k a b j : Nat} (h : Rm P (k + 1) a b) : b = k → Rm P (k + 1) k j → Rm P (k + 1) a j := by
  induction h with
  | one q => intro e h2; rw [e] at q; exact .step q (by omega) h2
  | step q l _ ih => intro e h2; exact .step q l (ih e h2)
theorem Rm.join {P : Ps} {m i j : Nat} (h : Rm P (m + 1) i m) (h2 : Rm P (m + 1) m j) : Rm P (m + 1) i j := h.join' rfl h2
theorem Rm.toRc {P : Ps} {m i j : Nat} (h : Rm P m i j) : Rc P i j := by
  induction h with
  | one h => exact .one h
  | step h _ _ ih => exact .step h ih
/-- by middles, one behind another -/
def wF (P : Ps) : Nat → Nat → Nat → Bool
  | 0, i, j => decide ((i, j) ∈ P)
  | m + 1, i, j => wF P m i j || (wF P m i m && wF P m m j)
theorem wF_pair {P : Ps} {i j : Nat} (h : (i, j) ∈ P) : ∀ m, wF P m i j = true
  | 0 => decide_eq_true h
  | m + 1 => by rw [wF, wF_pair h m]; rfl
theorem wF_rm (P : Ps) : ∀ (m i j : Nat), wF P m i j = true ↔ Rm P m i j
  | 0, i, j => by
    rw [wF, decide_eq_true_eq]
    constructor
    · exact .one
    · intro h
      cases h with
      | one h => exact h
      | step _ l _ => omega
  | m + 1, i, j => by
    have ih := wF_rm P m
    rw [wF, Bool.or_eq_true, Bool.and_eq_true, ih, ih, ih]
    constructor
    · rintro (h | ⟨h, h2⟩)
      · exact h.mono (by omega)
      · exact (h.mono (Nat.le_succ m)).join (h2.mono (Nat.le_succ m))
    · intro h
      induction h with
      | one h => exact .inl (.one h)
      | @step a k b h l _ q =>
        by_cases e : k = m
        · subst e
          right
          refine ⟨.one h, ?_⟩
          rcases q with q | q
          · exact q
          · exact q.2
        · rcases q with q | q
          · exact .inl (.step h (by omega) q)
          · exact .inr ⟨.step h (by omega) q.1, q.2⟩
/-- an order of n things -/
structure Ord (n : Nat) (P : Ps) : Prop where
  lt : ∀ p ∈ P, p.1 < n ∧ p.2 < n
  srt : P.Pairwise fun a b => a.1 < b.1 ∨ (a.1 = b.1 ∧ a.2 < b.2)
  rk : ∃ r : Nat → Nat, (∀ p ∈ P, r p.1 < r p.2) ∧ ∀ i, i < n → r i < n
section
variable {n : Nat} {P : Ps}
def B (n : Nat) (P : Ps) (i j : Nat) : Bool := wF P n i j
theorem rc_lt (h : ∀ p ∈ P, p.1 < n ∧ p.2 < n) {i j : Nat} (q : Rc P i j) : i < n ∧ j < n := by
  induction q with
  | one q => exact h _ q
  | step q _ ih => exact ⟨(h _ q).1, ih.2⟩
theorem b_rc (h : ∀ p ∈ P, p.1 < n ∧ p.2 < n) (i j : Nat) : B n P i j = true ↔ Rc P i j := by
  rw [B, wF_rm]
  constructor
  · exact Rm.toRc
  · intro q
    induction q with
    | one q => exact .one q
    | step q _ ih => exact .step q (h _ q).2 ih
theorem Ord.b (o : Ord n P) (i j : Nat) : B n P i j = true ↔ Rc P i j := b_rc o.lt i j
theorem Ord.bpair (o : Ord n P) {p : Nat × Nat} (h : p ∈ P) : B n P p.1 p.2 = true := (o.b _ _).mpr (.one h)
theorem Ord.btr (o : Ord n P) {i k j : Nat} (h : B n P i k = true) (h2 : B n P k j = true) : B n P i j = true := by
  rw [o.b] at *
  exact h.trans h2
theorem Ord.blt (o : Ord n P) {i j : Nat} (h : B n P i j = true) : i < n ∧ j < n := rc_lt o.lt ((o.b _ _).mp h)
theorem Ord.brk (o : Ord n P) : ∃ r : Nat → Nat, (∀ i j, B n P i j = true → r i < r j) ∧ ∀ i, i < n → r i < n := by
  obtain ⟨r, h1, h2⟩ := o.rk
  refine ⟨r, fun i j h => ?_, h2⟩
  have q := (o.b _ _).mp h
  clear h
  induction q with
  | one q => exact h1 _ q
  | step q _ ih => exact Nat.lt_trans (h1 _ q) ih
theorem Ord.irr (o : Ord n P) (i : Nat) : B n P i i = false := by
  obtain ⟨r, h, _⟩ := o.brk
  cases q : B n P i i with
  | false => rfl
  | true => exact absurd (h i i q) (Nat.lt_irrefl _)
/-! ### by turns -/
def lG (n : Nat) (P : Ps) : Nat → Nat → Nat → Bool
  | 0, i, j => decide ((i, j) ∈ P)
  | t + 1, i, j => lG n P t i j || !((List.range n).filter fun x => lG n P t i x && lG n P t x j).isEmpty
theorem ne_ex {α : Type} {xs : List α} {p : α → Bool} : (!(xs.filter p).isEmpty) = true ↔ ∃ x ∈ xs, p x = true := by
  rw [Bool.not_eq_true', Bool.eq_false_iff, ne_eq, List.isEmpty_iff, List.filter_eq_nil_iff]
  constructor
  · intro h
    apply Classical.byContradiction
    intro z
    exact h fun a ha hp => z ⟨a, ha, hp⟩
  · rintro ⟨x, hx, hp⟩ h
    exact h x hx hp
theorem lG_mono {t i j : Nat} (h : lG n P t i j = true) : lG n P (t + 1) i j = true := by rw [lG, h]; rfl
theorem lG_pair {i j : Nat} (h : (i, j) ∈ P) : ∀ t, lG n P t i j = true
  | 0 => decide_eq_true h
  | t + 1 => lG_mono (lG_pair h t)
theorem lG_rc : ∀ (t i j : Nat), lG n P t i j = true → Rc P i j
  | 0, i, j, h => .one (of_decide_eq_true h)
  | t + 1, i, j, h => by
    rw [lG, Bool.or_eq_true, ne_ex] at h
    rcases h with h | ⟨x, _, h⟩
    · exact lG_rc t i j h
    · rw [Bool.and_eq_true] at h
      exact (lG_rc t i x h.1).trans (lG_rc t x j h.2)
theorem Ord.lG_b (o : Ord n P) (i j : Nat) : lG n P n i j = B n P i j := by
  obtain ⟨r, h1, h2⟩ := o.brk
  have key : ∀ (t i j : Nat), Rc P i j → r j ≤ r i + t + 1 → lG n P t i j = true := by
    intro t
    induction t with
    | zero =>
      intro i j q l
      cases q with
      | one q => exact decide_eq_true q
      | step q q2 =>
        have a := h1 _ _ (o.bpair q)
        have b := h1 _ _ ((o.b _ _).mpr q2)
        simp only at a
        omega
    | succ t ih =>
      intro i j q l
      cases q with
      | one q => exact lG_pair q _
      | step q q2 =>
        rename_i k
        have a := h1 _ _ (o.bpair q)
        simp only at a
        have b := ih k j q2 (by omega)
        rw [lG, Bool.or_eq_true, ne_ex]
        right
        exact ⟨k, List.mem_range.mpr (o.lt _ q).2, by rw [lG_pair q, b]; rfl⟩
  rw [Bool.eq_iff_iff, o.b]
  constructor
  · exact lG_rc n i j
  · intro q
    have := h2 j (rc_lt o.lt q).2
    exact key n i j q (by omega)
/-! ### one row of all -/
theorem nd_le {α : Type} [DecidableEq α] : ∀ {xs ys : List α}, xs.Nodup → (∀ x ∈ xs, x ∈ ys) → xs.length ≤ ys.length
  | [], ys, _, _ => Nat.zero_le _
  | x :: xs, ys, nd, h => by
    rw [List.nodup_cons] at nd
    have m := h x List.mem_cons_self
    have := nd_le (xs := xs) (ys := ys.erase x) nd.2 fun y hy => by
      have q := h y (List.mem_cons_of_mem _ hy)
      have ne : y ≠ x := fun e => nd.1 (e ▸ hy)
      exact (List.mem_erase_of_ne ne).mpr q
    rw [List.length_erase_of_mem m] at this
    have := List.length_pos_of_mem m
    simp only [List.length_cons]
    omega
def freeB (n : Nat) (P : Ps) (F : List Nat) (x : Nat) : Bool := ((List.range n).filter fun o => B n P o x && !decide (o ∈ F)).isEmpty
def ableL (n : Nat) (P : Ps) (F : List Nat) : List Nat := (List.range n).filter fun x => !decide (x ∈ F) && freeB n P F x
def runL (n : Nat) (P : Ps) : Nat → List Nat
  | 0 => []
  | t + 1 => runL n P t ++ [(ableL n P (runL n P t)).headD 0]
theorem freeB_iff {F : List Nat} {x : Nat} : freeB n P F x = true ↔ ∀ o, o < n → B n P o x = true → o ∈ F := by
  unfold freeB
  rw [List.isEmpty_iff, List.filter_eq_nil_iff]
  constructor
  · intro h o ho hb
    apply Classical.byContradiction
    intro z
    exact h o (List.mem_range.mpr ho) (by rw [hb, decide_eq_false z]; rfl)
  · intro h o ho z
    rw [Bool.and_eq_true] at z
    have := h o (List.mem_range.mp ho) z.1
    rw [decide_eq_true this] at z
    exact absurd z.2 (by decide)
theorem able_mem {F : List Nat} {x : Nat} : x ∈ ableL n P F ↔ x < n ∧ x ∉ F ∧ ∀ o, o < n → B n P o x = true → o ∈ F := by
  unfold ableL
  rw [List.mem_filter, List.mem_range, Bool.and_eq_true, freeB_iff]
  simp
theorem Ord.able_ne (o : Ord n P) {F : List Nat} (h : F.length < n) : ableL n P F ≠ [] := by
  obtain ⟨r, h1, h2⟩ := o.brk
  have ex : ∃ x, x < n ∧ x ∉ F := by
    apply Classical.byContradiction
    intro z
    have := nd_le (xs := List.range n) (ys := F) List.nodup_range fun x hx => by
      apply Classical.byContradiction
      intro q
      exact z ⟨x, List.mem_range.mp hx, q⟩
    rw [List.length_range] at this
    omega
  have key : ∀ (k x : Nat), r x ≤ k → x < n → x ∉ F → ableL n P F ≠ [] := by
    intro k
    induction k with
    | zero =>
      intro x hr hx hf z
      have : x ∈ ableL n P F := able_mem.mpr ⟨hx, hf, fun a ha hb => by have := h1 a x hb; omega⟩
      rw [z] at this
      cases this
    | succ k ih =>
      intro x hr hx hf z
      by_cases c : ∀ a, a < n → B n P a x = true → a ∈ F
      · have : x ∈ ableL n P F := able_mem.mpr ⟨hx, hf, c⟩
        rw [z] at this
        cases this
      · have ⟨a, ha, hb, hc⟩ : ∃ a, a < n ∧ B n P a x = true ∧ a ∉ F := by
          apply Classical.byContradiction
          intro q
          exact c fun a ha hb => Classical.byContradiction fun s => q ⟨a, ha, hb, s⟩
        exact ih a (by have := h1 a x hb; omega) ha hc z
  obtain ⟨x, hx, hf⟩ := ex
  exact key (r x) x (Nat.le_refl _) hx hf
theorem headD_mem {xs : List Nat} (h : xs ≠ []) : xs.headD 0 ∈ xs := by
  cases xs with
  | nil => exact absurd rfl h
  | cons x xs => exact List.mem_cons_self
structure RunOk (n : Nat) (P : Ps) (t : Nat) (F : List Nat) : Prop where
  len : F.length = t
  nd : F.Nodup
  lt : ∀ x ∈ F, x < n
  cl : ∀ x ∈ F, ∀ o, o < n → B n P o x = true → o ∈ F
  top : F.Pairwise fun a b => B n P b a = false
theorem Ord.run (o : Ord n P) : ∀ t, t ≤ n → RunOk n P t (runL n P t)
  | 0, _ => ⟨rfl, List.nodup_nil, (fun _ z => nomatch z), (fun _ z => nomatch z), List.Pairwise.nil⟩
  | t + 1, h => by
    have ih := o.run t (by omega)
    have ne := o.able_ne (F := runL n P t) (by rw [ih.len]; omega)
    have hm := able_mem.mp (headD_mem ne)
    rw [runL]
    generalize (ableL n P (runL n P t)).headD 0 = x at hm
    obtain ⟨hx, hf, hc⟩ := hm
    refine ⟨by rw [List.length_append, ih.len]; rfl, ?_, fun y hy => ?_, fun y hy a ha hb => ?_, ?_⟩
    · rw [List.nodup_append]
      refine ⟨ih.nd, by simp, fun a ha b hb e => ?_⟩
      rw [List.mem_singleton] at hb
      exact hf (by rw [← hb, ← e]; exact ha)
    · rcases List.mem_append.mp hy with hy | hy
      · exact ih.lt y hy
      · rw [List.mem_singleton.mp hy]; exact hx
    · rcases List.mem_append.mp hy with hy | hy
      · exact List.mem_append_left _ (ih.cl y hy a ha hb)
      · rw [List.mem_singleton.mp hy] at hb
        exact List.mem_append_left _ (hc a ha hb)
    · rw [List.pairwise_append]
      refine ⟨ih.top, List.pairwise_singleton _ _, fun a ha b hb => ?_⟩
      rw [List.mem_singleton.mp hb]
      cases q : B n P x a with
      | false => rfl
      | true => exact absurd (ih.cl a ha x hx q) hf
theorem Ord.run_all (o : Ord n P) {x : Nat} (h : x < n) : x ∈ runL n P n := by
  have r := o.run n (Nat.le_refl n)
  apply Classical.byContradiction
  intro z
  have := nd_le (xs := x :: runL n P n) (ys := List.range n) (List.nodup_cons.mpr ⟨z, r.nd⟩) fun y hy => by
    rcases List.mem_cons.mp hy with rfl | hy
    · exact List.mem_range.mpr h
    · exact List.mem_range.mpr (r.lt y hy)
  rw [List.length_range, List.length_cons, r.len] at this
  omega
end
end K03
/-! K03u: upper lots, in plain Lean. -/
namespace K03
open RF
/-- no two of these lots have the same things -/
def Same (a b : List Nat) : Prop := ∀ x, x ∈ a ↔ x ∈ b
section
variable {n : Nat} {P : Ps}
def behL (n : Nat) (P : Ps) (x : Nat) : List Nat := (List.range n).filter fun o => B n P x o
def upC (n : Nat) (P : Ps) (x : Nat) (lot : List Nat) : Bool := ((behL n P x).filter fun o => !decide (o ∈ lot)).isEmpty
def upStep (n : Nat) (P : Ps) (L : List (List Nat)) (x : Nat) : List (List Nat) := L ++ (L.filter fun lot => upC n P x lot).map fun lot => lot ++ [x]
def upF (n : Nat) (P : Ps) : List Nat → List (List Nat) → List (List Nat)
  | [], L => L
  | x :: xs, L => upF n P xs (upStep n P L x)
theorem upC_iff {x : Nat} {lot : List Nat} : upC n P x lot = true ↔ ∀ o, o < n → B n P x o = true → o ∈ lot := by
  unfold upC behL
  rw [List.isEmpty_iff, List.filter_eq_nil_iff]
  constructor
  · intro h o ho hb
    apply Classical.byContradiction
    intro z
    exact h o (List.mem_filter.mpr ⟨List.mem_range.mpr ho, hb⟩) (by rw [decide_eq_false z]; rfl)
  · intro h o ho z
    have ho := List.mem_filter.mp ho
    have := h o (List.mem_range.mp ho.1) ho.2
    rw [decide_eq_true this] at z
    exact absurd z (by decide)
structure UpOk (n : Nat) (P : Ps) (D : List Nat) (L : List (List Nat)) : Prop where
  nd : ∀ l ∈ L, l.Nodup
  sub : ∀ l ∈ L, ∀ x ∈ l, x ∈ D
  cl : ∀ l ∈ L, ∀ x ∈ l, ∀ o, o < n → B n P x o = true → o ∈ l
  all : ∀ U : Nat → Prop, (∀ x, U x → x ∈ D) → (∀ x o, U x → o < n → B n P x o = true → U o) → ∃ l ∈ L, ∀ x, x ∈ l ↔ U x
  uni : L.Pairwise fun a b => ¬ Same a b
theorem UpOk.start : UpOk n P [] [[]] := ⟨by simp, by simp, by simp, fun U h _ => ⟨[], by simp, fun x => ⟨(fun z => nomatch z), fun z => h x z⟩⟩, List.pairwise_singleton _ _⟩
theorem Ord.up_step (o : Ord n P) {D : List Nat} {L : List (List Nat)} {x : Nat} (h : UpOk n P D L) (hx : x ∉ D) (ht : ∀ y ∈ D, B n P y x = false) : UpOk n P (D ++ [x]) (upStep n P L x) := by
  have nx : ∀ l ∈ L, x ∉ l := fun l hl z => hx (h.sub l hl x z)
  unfold upStep
  refine ⟨fun l hl => ?_, fun l hl y hy => ?_, fun l hl y hy a ha hb => ?_, fun U hU hc => ?_, ?_⟩
  · rcases List.mem_append.mp hl with hl | hl
    · exact h.nd l hl
    · obtain ⟨l', hl', rfl⟩ := List.mem_map.mp hl
      have hl' := (List.mem_filter.mp hl').1
      rw [List.nodup_append]
      refine ⟨h.nd l' hl', by simp, fun a ha b hb e => ?_⟩
      rw [List.mem_singleton] at hb
      exact nx l' hl' (by rw [← hb, ← e]; exact ha)
  · rcases List.mem_append.mp hl with hl | hl
    · exact List.mem_append_left _ (h.sub l hl y hy)
    · obtain ⟨l', hl', rfl⟩ := List.mem_map.mp hl
      have hl' := (List.mem_filter.mp hl').1
      rcases List.mem_append.mp hy with hy | hy
      · exact List.mem_append_left _ (h.sub l' hl' y hy)
      · exact List.mem_append_right _ hy
  · rcases List.mem_append.mp hl with hl | hl
    · exact h.cl l hl y hy a ha hb
    · obtain ⟨l', hl', rfl⟩ := List.mem_map.mp hl
      obtain ⟨hl', hu⟩ := List.mem_filter.mp hl'
      rcases List.mem_append.mp hy with hy | hy
      · exact List.mem_append_left _ (h.cl l' hl' y hy a ha hb)
      · rw [List.mem_singleton.mp hy] at hb
        exact List.mem_append_left _ (upC_iff.mp hu a ha hb)
  · by_cases ux : U x
    · obtain ⟨l, hl, q⟩ := h.all (fun y => U y ∧ y ≠ x) (fun y hy => by
        rcases List.mem_append.mp (hU y hy.1) with z | z
        · exact z
        · exact absurd (List.mem_singleton.mp z) hy.2) (fun y a hy ha hb => ⟨hc y a hy.1 ha hb, fun e => by
          rcases List.mem_append.mp (hU y hy.1) with z | z
          · rw [e, ht y z] at hb; cases hb
          · exact absurd (List.mem_singleton.mp z) hy.2⟩)
      refine ⟨l ++ [x], List.mem_append_right _ (List.mem_map.mpr ⟨l, List.mem_filter.mpr ⟨hl, upC_iff.mpr fun a ha hb => (q a).mpr ⟨hc x a ux ha hb, fun e => by rw [e, o.irr] at hb; cases hb⟩⟩, rfl⟩), fun y => ?_⟩
      rw [List.mem_append, List.mem_singleton, q]
      constructor
      · rintro (z | rfl)
        · exact z.1
        · exact ux
      · intro z
        by_cases e : y = x
        · exact .inr e
        · exact .inl ⟨z, e⟩
    · obtain ⟨l, hl, q⟩ := h.all U (fun y hy => by
        rcases List.mem_append.mp (hU y hy) with z | z
        · exact z
        · rw [List.mem_singleton.mp z] at hy; exact absurd hy ux) hc
      exact ⟨l, List.mem_append_left _ hl, q⟩
  · rw [List.pairwise_append]
    refine ⟨h.uni, ?_, fun a ha b hb s => ?_⟩
    · rw [List.pairwise_map]
      refine (List.Pairwise.filter _ (List.Pairwise.imp_of_mem (fun {a b} ha hb q => ?_) h.uni))
      intro s
      apply q
      intro y
      have := s y
      rw [List.mem_append, List.mem_append, List.mem_singleton] at this
      by_cases e : y = x
      · subst e
        exact ⟨fun z => absurd z (nx a ha), fun z => absurd z (nx b hb)⟩
      · simpa [e] using this
    · obtain ⟨l', hl', rfl⟩ := List.mem_map.mp hb
      exact nx a ha ((s x).mpr (List.mem_append_right _ (List.mem_singleton.mpr rfl)))
theorem Ord.up_all (o : Ord n P) : ∀ (xs D : List Nat) (L : List (List Nat)), UpOk n P D L → (D ++ xs).Nodup → (D ++ xs).Pairwise (fun a b => B n P a b = false) → UpOk n P (D ++ xs) (upF n P xs L)
  | [], D, L, h, _, _ => by rw [List.append_nil]; exact h
  | x :: xs, D, L, h, nd, tp => by
    have e : D ++ x :: xs = D ++ [x] ++ xs := by simp
    rw [e] at nd tp ⊢
    have n1 := (List.nodup_append.mp nd).1
    have t1 := (List.pairwise_append.mp tp).1
    have hx : x ∉ D := fun z => (List.nodup_append.mp n1).2.2 x z x (List.mem_singleton.mpr rfl) rfl
    have ht : ∀ y ∈ D, B n P y x = false := fun y hy => (List.pairwise_append.mp t1).2.2 y hy x (List.mem_singleton.mpr rfl)
    exact o.up_all xs (D ++ [x]) (upStep n P L x) (o.up_step h hx ht) nd tp
/-! ### by going through all lots -/
def subs : Nat → List (List Nat)
  | 0 => [[]]
  | k + 1 => subs k ++ (subs k).map fun l => l ++ [k]
theorem mem_subs : ∀ {k : Nat} {l : List Nat}, l ∈ subs k ↔ l.Pairwise (fun a b => a < b) ∧ ∀ x ∈ l, x < k
  | 0, l => by
    rw [subs, List.mem_singleton]
    constructor
    · rintro rfl
      exact ⟨List.Pairwise.nil, fun _ z => nomatch z⟩
    · rintro ⟨_, h⟩
      cases l with
      | nil => rfl
      | cons x l => exact absurd (h x List.mem_cons_self) (by omega)
  | k + 1, l => by
    rw [subs, List.mem_append, mem_subs, List.mem_map]
    constructor
    · rintro (⟨h, h2⟩ | ⟨l', hl', rfl⟩)
      · exact ⟨h, fun x hx => by have := h2 x hx; omega⟩
      · obtain ⟨h, h2⟩ := mem_subs.mp hl'
        refine ⟨List.pairwise_append.mpr ⟨h, List.pairwise_singleton _ _, fun a ha b hb => ?_⟩, fun x hx => ?_⟩
        · rw [List.mem_singleton.mp hb]; exact h2 a ha
        · rcases List.mem_append.mp hx with hx | hx
          · have := h2 x hx; omega
          · rw [List.mem_singleton.mp hx]; omega
    · rintro ⟨h, h2⟩
      rcases List.eq_nil_or_concat l with rfl | ⟨l', a, rfl⟩
      · exact .inl ⟨List.Pairwise.nil, fun _ z => nomatch z⟩
      · rw [List.concat_eq_append] at h h2 ⊢
        obtain ⟨p1, _, p2⟩ := List.pairwise_append.mp h
        have q : ∀ x ∈ l', x < a := fun x hx => p2 x hx a (List.mem_singleton.mpr rfl)
        have ha := h2 a (List.mem_append_right _ (List.mem_singleton.mpr rfl))
        by_cases e : a = k
        · subst e
          exact .inr ⟨l', mem_subs.mpr ⟨p1, q⟩, rfl⟩
        · refine .inl ⟨h, fun x hx => ?_⟩
          rcases List.mem_append.mp hx with hx | hx
          · have := q x hx; omega
          · rw [List.mem_singleton.mp hx]; omega
theorem subs_nd : ∀ k : Nat, (subs k).Nodup
  | 0 => by simp [subs]
  | k + 1 => by
    rw [subs, List.nodup_append]
    refine ⟨subs_nd k, ?_, fun a ha b hb e => ?_⟩
    · refine List.Pairwise.map _ (fun a b h e => ?_) (subs_nd k)
      exact h (List.append_cancel_right e)
    · obtain ⟨l, _, rfl⟩ := List.mem_map.mp hb
      have := (mem_subs.mp ha).2 k (by rw [e]; exact List.mem_append_right _ (List.mem_singleton.mpr rfl))
      omega
theorem subs_len : ∀ k : Nat, (subs k).length = 2 ^ k
  | 0 => rfl
  | k + 1 => by rw [subs, List.length_append, List.length_map, subs_len k, Nat.pow_succ]; omega
def clP (P : Ps) (l : List Nat) : Bool := (P.filter fun p => decide (p.1 ∈ l) && !decide (p.2 ∈ l)).isEmpty
theorem clP_iff {l : List Nat} : clP P l = true ↔ ∀ p ∈ P, p.1 ∈ l → p.2 ∈ l := by
  unfold clP
  rw [List.isEmpty_iff, List.filter_eq_nil_iff]
  constructor
  · intro h p hp h1
    apply Classical.byContradiction
    intro z
    exact h p hp (by rw [decide_eq_true h1, decide_eq_false z]; rfl)
  · intro h p hp z
    rw [Bool.and_eq_true, decide_eq_true_eq] at z
    rw [decide_eq_true (h p hp z.1)] at z
    exact absurd z.2 (by decide)
def lawU (n : Nat) (P : Ps) : List (List Nat) := (subs n).filter fun l => clP P l
theorem Ord.clP_b (o : Ord n P) {l : List Nat} : clP P l = true ↔ ∀ x ∈ l, ∀ a, a < n → B n P x a = true → a ∈ l := by
  rw [clP_iff]
  constructor
  · intro h x hx a ha hb
    have q := (o.b _ _).mp hb
    clear hb ha
    induction q with
    | one q => exact h _ q hx
    | step q _ ih => exact ih (h _ q hx)
  · intro h p hp h1
    exact h p.1 h1 p.2 (o.lt p hp).2 (o.bpair hp)
/-- ints -/
def ipl (P : List Nat) : List Int := P.map fun (i : Nat) => (i : Int)
theorem mem_ipl {l : List Nat} {x : Nat} : (x : Int) ∈ ipl l ↔ x ∈ l := by
  unfold ipl
  rw [List.mem_map]
  constructor
  · rintro ⟨a, ha, e⟩
    have : a = x := by omega
    rw [← this]; exact ha
  · intro h
    exact ⟨x, h, rfl⟩
theorem ipl_inj {a b : List Nat} (h : ipl a = ipl b) : a = b := by
  unfold ipl at h
  exact List.map_inj_right (fun x y e => by omega) |>.mp h
theorem nd_perm {α : Type} [DecidableEq α] {xs ys : List α} (h1 : xs.Nodup) (h2 : ys.Nodup) (h : ∀ a, a ∈ xs ↔ a ∈ ys) : xs.Perm ys := by
  rw [List.perm_iff_count]
  intro a
  rw [List.Nodup.count h1, List.Nodup.count h2]
  by_cases m : a ∈ xs
  · rw [if_pos m, if_pos ((h a).mp m)]
  · rw [if_neg m, if_neg fun z => m ((h a).mpr z)]
/-- the sorted list of the things of a lot without two alike -/
theorem sort_lot {l : List Nat} (h : l.Nodup) : ∃ s : List Nat, s.Pairwise (fun a b => a < b) ∧ (∀ x, x ∈ s ↔ x ∈ l) ∧ RX.sortI (ipl l) = ipl s := by
  have p := RX.sortI_perm (ipl l)
  have s := RX.sortI_pw (ipl l)
  refine ⟨(RX.sortI (ipl l)).map Int.toNat, ?_, ?_, ?_⟩
  · have pos : ∀ x ∈ RX.sortI (ipl l), 0 ≤ x := fun x hx => by
      obtain ⟨a, _, rfl⟩ := List.mem_map.mp (p.mem_iff.mp hx)
      omega
    have nd : (RX.sortI (ipl l)).Nodup := p.nodup_iff.mpr (List.Pairwise.map _ (fun a b h e => h (by omega)) h)
    rw [List.pairwise_map]
    refine List.Pairwise.imp_of_mem (fun {a b} ha hb q => ?_) (List.Pairwise.and s nd)
    have := pos a ha
    have := pos b hb
    obtain ⟨q1, q2⟩ := q
    omega
  · intro x
    rw [List.mem_map]
    constructor
    · rintro ⟨a, ha, rfl⟩
      obtain ⟨b, hb, rfl⟩ := List.mem_map.mp (p.mem_iff.mp ha)
      simpa using hb
    · intro h
      exact ⟨(x : Int), p.mem_iff.mpr (mem_ipl.mpr h), by simp⟩
  · unfold ipl at *
    rw [List.map_map]
    symm
    have : ∀ x ∈ RX.sortI (l.map fun (i : Nat) => (i : Int)), ((fun (i : Nat) => (i : Int)) ∘ Int.toNat) x = x := fun x hx => by
      obtain ⟨a, _, rfl⟩ := List.mem_map.mp (p.mem_iff.mp hx)
      simp
    rw [List.map_congr_left this, List.map_id']
theorem asc_uniq {a b : List Nat} (ha : a.Pairwise fun x y => x < y) (hb : b.Pairwise fun x y => x < y) (h : ∀ x, x ∈ a ↔ x ∈ b) : a = b :=
  RX.perm_uniq (le := fun x y => x < y) (fun x y h1 h2 => by omega) (nd_perm (ha.imp fun z => by omega) (hb.imp fun z => by omega) h) ha hb
theorem Ord.uppers (o : Ord n P) {D : List Nat} {L : List (List Nat)} (h : UpOk n P D L) (hD : ∀ x, x ∈ D ↔ x < n) : RX.sortL (L.map fun l => RX.sortI (ipl l)) = RX.sortL ((lawU n P).map ipl) := by
  refine RX.sortL_uniq ((RX.sortL_perm _).trans ?_) (RX.sortL_pw _)
  refine nd_perm ?_ ?_ fun s => ?_
  · refine List.Pairwise.map _ (fun a b q => q) (R := fun a b => RX.sortI (ipl a) ≠ RX.sortI (ipl b)) (List.Pairwise.imp_of_mem (fun {a b} ha hb q e => ?_) h.uni)
    apply q
    intro x
    have pa := (RX.sortI_perm (ipl a)).mem_iff (a := (x : Int))
    have pb := (RX.sortI_perm (ipl b)).mem_iff (a := (x : Int))
    rw [e] at pa
    rw [← mem_ipl, ← mem_ipl, ← pa, ← pb]
  · exact List.Pairwise.map _ (fun a b q e => q (ipl_inj e)) (List.Pairwise.filter _ (subs_nd n))
  · rw [List.mem_map, List.mem_map]
    constructor
    · rintro ⟨l, hl, rfl⟩
      obtain ⟨t, t1, t2, t3⟩ := sort_lot (h.nd l hl)
      refine ⟨t, List.mem_filter.mpr ⟨mem_subs.mpr ⟨t1, fun x hx => (hD x).mp (h.sub l hl x ((t2 x).mp hx))⟩, o.clP_b.mpr fun x hx a ha hb => (t2 a).mpr (h.cl l hl x ((t2 x).mp hx) a ha hb)⟩, t3.symm⟩
    · rintro ⟨t, ht, rfl⟩
      obtain ⟨m1, m2⟩ := List.mem_filter.mp ht
      obtain ⟨m3, m4⟩ := mem_subs.mp m1
      obtain ⟨l, hl, q⟩ := h.all (fun x => x ∈ t) (fun x hx => (hD x).mpr (m4 x hx)) (fun x a hx ha hb => o.clP_b.mp m2 x hx a ha hb)
      obtain ⟨t', t1, t2, t3⟩ := sort_lot (h.nd l hl)
      refine ⟨l, hl, ?_⟩
      rw [t3, asc_uniq t1 m3 fun x => (t2 x).trans (q x)]
theorem Ord.uppers_run (o : Ord n P) : RX.sortL ((upF n P (runL n P n).reverse [[]]).map fun l => RX.sortI (ipl l)) = RX.sortL ((lawU n P).map ipl) := by
  have r := o.run n (Nat.le_refl n)
  have h := o.up_all (runL n P n).reverse [] [[]] UpOk.start (by rw [List.nil_append]; exact (by unfold List.Nodup; rw [List.pairwise_reverse]; exact r.nd.imp fun h => h.symm)) (by rw [List.nil_append, List.pairwise_reverse]; exact r.top)
  rw [List.nil_append] at h
  refine o.uppers h fun x => ?_
  rw [List.mem_reverse]
  exact ⟨r.lt x, o.run_all⟩
theorem upF_len : ∀ (xs : List Nat) (L : List (List Nat)), (upF n P xs L).length ≤ L.length * 2 ^ xs.length
  | [], L => by simp [upF]
  | x :: xs, L => by
    have := upF_len xs (upStep n P L x)
    have l : (upStep n P L x).length ≤ 2 * L.length := by
      unfold upStep
      rw [List.length_append, List.length_map]
      have := List.length_filter_le (fun lot => upC n P x lot) L
      omega
    rw [upF, List.length_cons, Nat.pow_succ]
    have m := Nat.mul_le_mul_right (2 ^ xs.length) l
    have : L.length * (2 ^ xs.length * 2) = 2 * L.length * 2 ^ xs.length := by
      rw [Nat.mul_comm (2 ^ xs.length) 2, ← Nat.mul_assoc, Nat.mul_comm L.length 2]
    omega
end
end K03
/-! K03r: who stands before whom. -/
namespace K03
open RF MX
abbrev pD (P : Ps) : D := .lst (ptD P)
/-- .. while the rows are gone through -/
def wT (P : Ps) (k t i j : Nat) : Bool := if i < t then wF P (k + 1) i j else wF P k i j
theorem wF_mid (P : Ps) (k j : Nat) : wF P (k + 1) k j = wF P k k j := by
  rw [wF]
  cases wF P k k j <;> simp
abbrev cxR : RF.X := .comp (.cmp .mem (.tup (.cons (.v 4) (.cons (.v 3) .nil))) (.v 1)) (.nm 3) (.rng1 (.v 0)) .none [3]
abbrev enR (n : Nat) (P : Ps) (m a b c : Option O) : RF.Env := [some (zi n), some (.z (pD P)), m, a, b, c]
section
variable (n : Nat) (P : Ps) (hn : n < 1000)
include hn
theorem cxR_eq (m i : Nat) : evalE (cc m) cxR (enR n P none none (some (zi i)) none) = .ok (mrow n (wF P 0 i)) (enR n P none none (some (zi i)) none) :=
  ev_compA (List.range n) (fun (j : Nat) => D.int j) (fun j => zb (wF P 0 i j)) (it_rngN (by omega) (ev_v rfl)) (fun j hj => ⟨enR n P none (some (zi j)) (some (zi i)) none, rfl, cmp_ok (tup2_ok (ev_v rfl) (ev_v rfl)) (ev_v rfl) (mem_pt P i j), rfl⟩) (by rw [List.length_range]; omega) rfl (fun _ _ => rfl)
theorem cxR2_eq (m : Nat) : evalE (cc m) (.comp cxR (.nm 4) (.rng1 (.v 0)) .none [4]) (enR n P none none none none) = .ok (mat n (wF P 0)) (enR n P none none none none) :=
  ev_compA (List.range n) (fun (j : Nat) => D.int j) (fun i => mrow n (wF P 0 i)) (it_rngN (by omega) (ev_v rfl)) (fun i hi => ⟨enR n P none none (some (zi i)) none, rfl, cxR_eq n P hn m i, rfl⟩) (by rw [List.length_range]; omega) rfl (fun i _ => clean_mrow n _)
abbrev cxR3 : RF.X := .comp (.or (.cons (.ix2 2 (.v 4) (.v 3)) (.cons (.ix2 2 (.v 5) (.v 3)) .nil))) (.nm 3) (.rng1 (.v 0)) .none [3]
theorem cxR3_eq (m t k : Nat) (F : Nat → Nat → Bool) (ht : t < n) (hk : k < n) : evalE (cc m) cxR3 (enR n P (some (mat n F)) none (some (zi t)) (some (zi k))) = .ok (mrow n fun o => F t o || F k o) (enR n P (some (mat n F)) none (some (zi t)) (some (zi k))) :=
  ev_compA (List.range n) (fun (j : Nat) => D.int j) (fun o => zb (F t o || F k o)) (it_rngN (by omega) (ev_v rfl)) (fun o ho => ⟨enR n P (some (mat n F)) (some (zi o)) (some (zi t)) (some (zi k)), rfl, or2_ok (ix2_ok rfl (ev_v rfl) (ev_v rfl) ht (List.mem_range.mp ho)) (ix2_ok rfl (ev_v rfl) (ev_v rfl) hk (List.mem_range.mp ho)), rfl⟩) (by rw [List.length_range]; omega) rfl (fun _ _ => rfl)
abbrev bdR1 : Ss := .cons (.ite (.ix2 2 (.v 4) (.v 5)) (.cons (.sto 2 (.v 4) cxR3) .nil) .nil) .nil
theorem bdR1_eq (m t k : Nat) (ht : t < n) (hk : k < n) : evalSs (cc m) Wf bdR1 (enR n P (some (mat n (wT P k t))) none (some (zi t)) (some (zi k))) = .nx (enR n P (some (mat n (wT P k (t + 1)))) none (some (zi t)) (some (zi k))) := by
  have c : evalE (cc m) (.ix2 2 (.v 4) (.v 5)) (enR n P (some (mat n (wT P k t))) none (some (zi t)) (some (zi k))) = .ok (zb (wF P k t k)) (enR n P (some (mat n (wT P k t))) none (some (zi t)) (some (zi k))) := by
    have := ix2_ok (C := cc m) (e := enR n P (some (mat n (wT P k t))) none (some (zi t)) (some (zi k))) (i := 2) (a := .v 4) (b := .v 5) (F := wT P k t) rfl (ev_v rfl) (ev_v rfl) ht hk
    rw [show wT P k t t k = wF P k t k from by rw [wT, if_neg (Nat.lt_irrefl t)]] at this
    exact this
  have mid : ∀ o, wT P k t k o = wF P k k o := fun o => by
    unfold wT
    split
    · exact wF_mid P k o
    · rfl
  rw [evalSs, st_ite c]
  by_cases q : wF P k t k = true
  · rw [q, if_pos rfl]
    have s : evalS (cc m) Wf (.sto 2 (.v 4) cxR3) (enR n P (some (mat n (wT P k t))) none (some (zi t)) (some (zi k))) = .nx (enR n P (some (mat n (wT P k (t + 1)))) none (some (zi t)) (some (zi k))) := by
      rw [sto_ok (os := (List.range n).map fun r => mrow n (wT P k t r)) (i := 2) rfl (cxR3_eq n P hn m t k (wT P k t) ht hk) (ev_v rfl) (by simpa using ht), mat_set]
      show Out.nx (enR n P (some (.l _)) _ _ _) = _
      congr 2
      congr 1
      congr 1
      apply List.map_congr_left
      intro r hr
      apply mrow_congr
      intro o ho
      by_cases e : r = t
      · subst e
        rw [if_pos rfl, mid]
        simp only [wT, Nat.lt_irrefl, if_false, if_pos (Nat.lt_succ_self r)]
        rw [wF, q, Bool.true_and]
      · rw [if_neg e]
        simp only [wT]
        by_cases e2 : r < t
        · rw [if_pos e2, if_pos (by omega)]
        · rw [if_neg e2, if_neg (by omega)]
    rw [nxt s, nx0]
    exact nx0
  · have q : wF P k t k = false := by simpa using q
    rw [q, if_neg Bool.false_ne_true, nx0]
    show evalSs _ _ .nil _ = _
    rw [nx0, mat_congr (F := wT P k t) (G := wT P k (t + 1))]
    intro r hr o ho
    simp only [wT]
    by_cases e : r < t
    · rw [if_pos e, if_pos (by omega)]
    · rw [if_neg e]
      by_cases e2 : r < t + 1
      · rw [if_pos e2, wF, show r = t by omega, q, Bool.false_and, Bool.or_false]
      · rw [if_neg e2]
theorem forR1_eq (m k : Nat) (x : Option O) (hk : k < n) : ∃ x', evalS (cc m) Wf (.for (.nm 4) (.rng1 (.v 0)) bdR1) (enR n P (some (mat n (wF P k))) none x (some (zi k))) = .nx (enR n P (some (mat n (wF P (k + 1)))) none x' (some (zi k))) := by
  obtain ⟨e', h1, x', h2⟩ := ev_for (t := .nm 4) (body := fun e => evalSs (cc m) Wf bdR1 e) (q := fun (j : Nat) => D.int j)
    (fun t e => ∃ x', e = enR n P (some (mat n (wT P k t))) none x' (some (zi k))) (xs := List.range n) (k := 0) (e := enR n P (some (mat n (wF P k))) none x (some (zi k))) ⟨x, by rw [mat_congr (F := wF P k) (G := wT P k 0) (fun r _ o _ => by simp [wT])]⟩ (fun j x e hj ⟨a, he⟩ => by
      obtain ⟨h, rfl⟩ := List.getElem?_eq_some_iff.mp hj
      simp only [List.length_range] at h
      simp only [List.getElem_range, Nat.zero_add] at he ⊢
      subst he
      exact ⟨enR n P (some (mat n (wT P k j))) none (some (zi j)) (some (zi k)), _, rfl, bdR1_eq n P hn m j k h hk, _, rfl⟩)
  rw [Nat.zero_add, List.length_range] at h2
  subst h2
  refine ⟨x', ?_⟩
  rw [for_ok (it_rngN (by omega) (ev_v rfl)) h1, mat_congr (F := wT P k n) (G := wF P (k + 1))]
  intro r hr o ho
  rw [wT, if_pos hr]
theorem reach_eq (k : Nat) : g (k + 1) f_reach_of [zi n, .z (pD P)] = ret (mat n (B n P)) := by
  rw [at_reach_of, run_eq (h := rfl)]
  show RF.finish [false, false] (evalSs (cc k) Wf (.cons (.set 2 (.comp cxR (.nm 4) (.rng1 (.v 0)) .none [4])) (.cons (.for (.nm 5) (.rng1 (.v 0)) (.cons (.for (.nm 4) (.rng1 (.v 0)) bdR1) .nil)) (.cons (.ret (.v 2)) .nil))) (enR n P none none none none)) = _
  have s1 : evalS (cc k) Wf (.set 2 (.comp cxR (.nm 4) (.rng1 (.v 0)) .none [4])) (enR n P none none none none) = .nx (enR n P (some (mat n (wF P 0))) none none none) := set_ok (cxR2_eq n P hn k)
  obtain ⟨e', h1, x, y, h2⟩ := ev_for (t := .nm 5) (body := fun e => evalSs (cc k) Wf (.cons (.for (.nm 4) (.rng1 (.v 0)) bdR1) .nil) e) (q := fun (j : Nat) => D.int j)
    (fun j e => ∃ x y, e = enR n P (some (mat n (wF P j))) none x y) (xs := List.range n) (k := 0) (e := enR n P (some (mat n (wF P 0))) none none none) ⟨none, none, rfl⟩ (fun j x e hj ⟨a, b, he⟩ => by
      obtain ⟨h, rfl⟩ := List.getElem?_eq_some_iff.mp hj
      simp only [List.length_range] at h
      simp only [List.getElem_range, Nat.zero_add] at he ⊢
      subst he
      obtain ⟨x', q⟩ := forR1_eq n P hn k j a h
      exact ⟨enR n P (some (mat n (wF P j))) none a (some (zi j)), _, rfl, by rw [nxt q, nx0], x', _, rfl⟩)
  rw [Nat.zero_add, List.length_range] at h2
  subst h2
  rw [nxt s1, nxt (for_ok (it_rngN (by omega) (ev_v rfl)) h1), nxr (retv rfl)]
  rfl
/-! ### .. by the law's turns -/
abbrev enL (m a b c d : Option O) : RF.Env := [some (zi n), some (.z (pD P)), m, a, b, c, d]
theorem cxL_eq (m i : Nat) : evalE (cc m) cxR (enL n P none none (some (zi i)) none none) = .ok (mrow n (lG n P 0 i)) (enL n P none none (some (zi i)) none none) :=
  ev_compA (List.range n) (fun (j : Nat) => D.int j) (fun j => zb (lG n P 0 i j)) (it_rngN (by omega) (ev_v rfl)) (fun j hj => ⟨enL n P none (some (zi j)) (some (zi i)) none none, rfl, cmp_ok (tup2_ok (ev_v rfl) (ev_v rfl)) (ev_v rfl) (mem_pt P i j), rfl⟩) (by rw [List.length_range]; omega) rfl (fun _ _ => rfl)
theorem cxL2_eq (m : Nat) : evalE (cc m) (.comp cxR (.nm 4) (.rng1 (.v 0)) .none [4]) (enL n P none none none none none) = .ok (mat n (lG n P 0)) (enL n P none none none none none) :=
  ev_compA (List.range n) (fun (j : Nat) => D.int j) (fun i => mrow n (lG n P 0 i)) (it_rngN (by omega) (ev_v rfl)) (fun i hi => ⟨enL n P none none (some (zi i)) none none, rfl, cxL_eq n P hn m i, rfl⟩) (by rw [List.length_range]; omega) rfl (fun i _ => clean_mrow n _)
abbrev cxL3 : RF.X := .comp (.v 6) (.nm 6) (.rng1 (.v 0)) (.some (.and (.cons (.ix2 2 (.v 4) (.v 6)) (.cons (.ix2 2 (.v 6) (.v 3)) .nil)))) [6]
theorem cxL3_eq (m i j : Nat) (F : Nat → Nat → Bool) (x : Option O) (hi : i < n) (hj : j < n) : evalE (cc m) cxL3 (enL n P (some (mat n F)) (some (zi j)) (some (zi i)) x none) = .ok (on ((List.range n).filter fun k => F i k && F k j)) (enL n P (some (mat n F)) (some (zi j)) (some (zi i)) x none) :=
  ev_comp (List.range n) (fun (j : Nat) => D.int j) (fun k => F i k && F k j) (fun (k : Nat) => zi k) (it_rngN (by omega) (ev_v rfl)) (fun k hk => ⟨enL n P (some (mat n F)) (some (zi j)) (some (zi i)) x (some (zi k)), rfl, by rw [evalCond]; exact and2_ok (ix2_ok rfl (ev_v rfl) (ev_v rfl) hi (List.mem_range.mp hk)) (ix2_ok rfl (ev_v rfl) (ev_v rfl) (List.mem_range.mp hk) hj), fun _ => ev_v rfl, rfl⟩) (by rw [List.length_range]; omega) rfl (fun _ _ _ => rfl)
abbrev cxL4 : RF.X := .comp (.or (.cons (.ix2 2 (.v 4) (.v 3)) (.cons (.cmp .ne cxL3 (.lst .nil)) .nil))) (.nm 3) (.rng1 (.v 0)) .none [3]
abbrev nxF (n : Nat) (F : Nat → Nat → Bool) (i j : Nat) : Bool := F i j || !((List.range n).filter fun k => F i k && F k j).isEmpty
theorem cxL4_eq (m i : Nat) (F : Nat → Nat → Bool) (x : Option O) (hi : i < n) : evalE (cc m) cxL4 (enL n P (some (mat n F)) none (some (zi i)) x none) = .ok (mrow n (nxF n F i)) (enL n P (some (mat n F)) none (some (zi i)) x none) :=
  ev_compA (List.range n) (fun (j : Nat) => D.int j) (fun j => zb (nxF n F i j)) (it_rngN (by omega) (ev_v rfl)) (fun j hj => ⟨enL n P (some (mat n F)) (some (zi j)) (some (zi i)) x none, rfl, by
    have q := ne_ok' (by intro i z; cases z) (cxL3_eq n P hn m i j F x hi (List.mem_range.mp hj)) on_ok
    rw [List.isEmpty_map] at q
    exact or2_ok (ix2_ok rfl (ev_v rfl) (ev_v rfl) hi (List.mem_range.mp hj)) q, rfl⟩) (by rw [List.length_range]; omega) rfl (fun _ _ => rfl)
theorem cxL5_eq (m : Nat) (F : Nat → Nat → Bool) (x : Option O) : evalE (cc m) (.comp cxL4 (.nm 4) (.rng1 (.v 0)) .none [4]) (enL n P (some (mat n F)) none none x none) = .ok (mat n (nxF n F)) (enL n P (some (mat n F)) none none x none) :=
  ev_compA (List.range n) (fun (j : Nat) => D.int j) (fun i => mrow n (nxF n F i)) (it_rngN (by omega) (ev_v rfl)) (fun i hi => ⟨enL n P (some (mat n F)) none (some (zi i)) x none, rfl, cxL4_eq n P hn m i F x (List.mem_range.mp hi), rfl⟩) (by rw [List.length_range]; omega) rfl (fun i _ => clean_mrow n _)
theorem before_eq (k : Nat) : g (k + 1) f__law_before [zi n, .z (pD P)] = ret (mat n (lG n P n)) := by
  rw [at__law_before, run_eq (h := rfl)]
  show RF.finish [false, false] (evalSs (cc k) Wf (.cons (.set 2 (.comp cxR (.nm 4) (.rng1 (.v 0)) .none [4])) (.cons (.for (.nm 5) (.rng1 (.v 0)) (.cons (.set 2 (.comp cxL4 (.nm 4) (.rng1 (.v 0)) .none [4])) .nil)) (.cons (.ret (.v 2)) .nil))) (enL n P none none none none none)) = _
  have s1 : evalS (cc k) Wf (.set 2 (.comp cxR (.nm 4) (.rng1 (.v 0)) .none [4])) (enL n P none none none none none) = .nx (enL n P (some (mat n (lG n P 0))) none none none none) := set_ok (cxL2_eq n P hn k)
  obtain ⟨e', h1, x, h2⟩ := ev_for (t := .nm 5) (body := fun e => evalSs (cc k) Wf (.cons (.set 2 (.comp cxL4 (.nm 4) (.rng1 (.v 0)) .none [4])) .nil) e) (q := fun (j : Nat) => D.int j)
    (fun j e => ∃ x, e = enL n P (some (mat n (lG n P j))) none none x none) (xs := List.range n) (k := 0) (e := enL n P (some (mat n (lG n P 0))) none none none none) ⟨none, rfl⟩ (fun j x e hj ⟨a, he⟩ => by
      obtain ⟨h, rfl⟩ := List.getElem?_eq_some_iff.mp hj
      simp only [List.length_range] at h
      simp only [List.getElem_range, Nat.zero_add] at he ⊢
      subst he
      have s : evalS (cc k) Wf (.set 2 (.comp cxL4 (.nm 4) (.rng1 (.v 0)) .none [4])) (enL n P (some (mat n (lG n P j))) none none (some (zi j)) none) = .nx (enL n P (some (mat n (lG n P (j + 1)))) none none (some (zi j)) none) := set_ok (cxL5_eq n P hn k (lG n P j) (some (zi j)))
      exact ⟨enL n P (some (mat n (lG n P j))) none none (some (zi j)) none, _, rfl, by rw [nxt s, nx0], _, rfl⟩)
  rw [Nat.zero_add, List.length_range] at h2
  subst h2
  rw [nxt s1, nxt (for_ok (it_rngN (by omega) (ev_v rfl)) h1), nxr (retv rfl)]
  rfl
end
theorem Ord.before (n k : Nat) {P : Ps} (o : Ord n P) (hn : n < 1000) : g (k + 1) f__law_before [zi n, .z (pD P)] = ret (mat n (B n P)) := by
  rw [before_eq n P hn k, mat_congr (F := lG n P n) (G := B n P) fun r _ c _ => o.lG_b r c]
end K03
/-! K03s: the same; refusals. -/
namespace K03
open RF MX
def isW : D → Bool
  | .int _ => true
  | _ => false
theorem gd_cases {n : Nat} {d : D} (h : Gd n d) : d = .non ∨ (∃ b, d = .bl b) ∨ (∃ i, d = .int i) ∨ (∃ x, d = .str x) ∨ (∃ ds, d = .lst ds) ∨ ∃ ds, d = .tup ds := by
  cases d with
  | non => exact .inl rfl
  | bl b => exact .inr (.inl ⟨b, rfl⟩)
  | int i => exact .inr (.inr (.inl ⟨i, rfl⟩))
  | str x => exact .inr (.inr (.inr (.inl ⟨x, rfl⟩)))
  | lst ds => exact .inr (.inr (.inr (.inr (.inl ⟨ds, rfl⟩))))
  | tup ds => exact .inr (.inr (.inr (.inr (.inr ⟨ds, rfl⟩))))
  | _ => cases n <;> simp [Gd] at h
theorem whole_eq (k n : Nat) {d : D} (h : Gd n d) : g (k + 1) f_is_whole [.z d] = ret (zb (isW d)) := by
  rcases gd_cases h with rfl | ⟨b, rfl⟩ | ⟨i, rfl⟩ | ⟨x, rfl⟩ | ⟨ds, rfl⟩ | ⟨ds, rfl⟩ <;> rfl
theorem isW_cases (d : D) : isW d = false ∨ ∃ i, d = .int i := by cases d <;> simp [isW]
abbrev cdS : RF.X := .not (.call true f__law_same (.cons (.ix (.v 0) (.v 2)) (.cons (.ix (.v 1) (.v 2)) .nil)))
abbrev cxS : RF.X := .comp (.v 2) (.nm 2) (.rng1 (.blt .len (.cons (.v 1) .nil))) (.some cdS) [2]
def items : D → List D
  | .lst ds => ds
  | .tup ds => ds
  | _ => []
theorem itS_eq (m : Nat) {d : D} (hlen : (items d).length < 1000) (hs : (∃ ds, d = .lst ds) ∨ ∃ ds, d = .tup ds) : evalIt (cc m) (.rng1 (.blt .len (.cons (.v 1) .nil))) [some (.z d), some (.z d), none] = .ok ((List.range (items d).length).map fun (j : Nat) => D.int j) [some (.z d), some (.z d), none] := by
  rcases hs with ⟨ds, rfl⟩ | ⟨ds, rfl⟩ <;> exact it_rngN (by simp only [items] at hlen ⊢; omega) (by simp [evalE, evalVs, bltV, viewE, getE, RF.R.bind, O.toD, ofOpt, items])
theorem cdS_eq (m : Nat) {d : D} {j : Nat} (hj : j < (items d).length) (hs : (∃ ds, d = .lst ds) ∨ ∃ ds, d = .tup ds) (ih : g m f__law_same [.z (items d)[j], .z (items d)[j]] = ret (zb true)) :
    evalE (cc m) cdS [some (.z d), some (.z d), some (zi j)] = .ok (zb false) [some (.z d), some (.z d), some (zi j)] := by
  have a : ∀ ds : List D, (h : j < ds.length) → L2.atI ds (j : Int) = some ds[j] := fun ds hl => by rw [atI_nat, List.getElem?_eq_getElem hl]
  rcases hs with ⟨ds, rfl⟩ | ⟨ds, rfl⟩ <;> (
    simp only [items] at hj ih
    have e2 := a ds hj
    simp [cdS, evalE, evalArgs, viewE, getE, RF.R.bind, pureX, O.toD, ofOpt, e2, doCall, sg__law_same, cc_call, ih, Ar.fetch, Ar.slots, Ar.isRef, back0, O.clean, D.lf])
theorem cxS_eq (m : Nat) {d : D} (hlen : (items d).length < 1000) (hs : (∃ ds, d = .lst ds) ∨ ∃ ds, d = .tup ds) (ih : ∀ x ∈ items d, g m f__law_same [.z x, .z x] = ret (zb true)) : evalE (cc m) cxS [some (.z d), some (.z d), none] = .ok (.l []) [some (.z d), some (.z d), none] := by
  have q := ev_comp (elt := .v 2) (t := .nm 2) (cd := .some cdS) (own := [2]) (List.range (items d).length) (fun (j : Nat) => D.int j) (fun _ => false) (fun _ => zi 0) (itS_eq m hlen hs) (fun j hj => ⟨[some (.z d), some (.z d), some (zi j)], rfl, by rw [evalCond]; exact cdS_eq m (List.mem_range.mp hj) hs (ih _ (List.getElem_mem _)), (fun z => nomatch z), rfl⟩)
    (by rw [List.length_range]; omega) rfl (fun _ _ z => nomatch z)
  rw [show (List.range (items d).length).filter (fun _ => false) = [] from by simp, List.map_nil] at q
  exact q
theorem same_seq (m n : Nat) {d : D} (h : Gd (n + 1) d) (hs : (∃ ds, d = .lst ds) ∨ ∃ ds, d = .tup ds) (ih : ∀ x ∈ items d, g m f__law_same [.z x, .z x] = ret (zb true)) : g (m + 1) f__law_same [.z d, .z d] = ret (zb true) := by
  have hlen : (items d).length < 1000 := by
    rcases hs with ⟨ds, rfl⟩ | ⟨ds, rfl⟩ <;> (simp only [Gd] at h; exact h.1)
  have c := cxS_eq m hlen hs ih
  have c2 := eq_nil_ok (ds := []) (fun i z => by cases z) c (fun d hd => by cases hd)
  rw [at__law_same, run_eq (h := rfl)]
  have s1 : evalE (cc m) (.or (.cons (.cmp .is (.v 1) .non) (.cons (.cmp .is (.v 1) (.tt true)) (.cons (.cmp .is (.v 1) (.tt false)) .nil)))) [some (.z d), some (.z d), none] = .ok (zb false) [some (.z d), some (.z d), none] := by
    rcases hs with ⟨ds, rfl⟩ | ⟨ds, rfl⟩ <;> simp [evalE, evalOr, viewE, getE, RF.R.bind, O.toD, cmpop, D.isNon, D.isBl, ofOpt]
  have s2 : evalE (cc m) (.isi .lt (.v 1)) [some (.z d), some (.z d), none] = .ok (zb true) [some (.z d), some (.z d), none] := by
    rcases hs with ⟨ds, rfl⟩ | ⟨ds, rfl⟩ <;> simp [evalE, viewE, getE, RF.R.bind, O.toD, isiV, ofOpt]
  have s3 : evalE (cc m) (.or (.cons (.and (.cons (.not (.isi .list (.v 0))) (.cons (.isi .list (.v 1)) .nil))) (.cons (.and (.cons (.not (.isi .tuple (.v 0))) (.cons (.isi .tuple (.v 1)) .nil))) .nil))) [some (.z d), some (.z d), none] = .ok (zb false) [some (.z d), some (.z d), none] := by
    rcases hs with ⟨ds, rfl⟩ | ⟨ds, rfl⟩ <;> simp [evalE, evalOr, evalAnd, viewE, getE, RF.R.bind, O.toD, isiV, ofOpt]
  have s4 : evalE (cc m) (.cmp .eq (.blt .len (.cons (.v 0) .nil)) (.blt .len (.cons (.v 1) .nil))) [some (.z d), some (.z d), none] = .ok (zb true) [some (.z d), some (.z d), none] := by
    rcases hs with ⟨ds, rfl⟩ | ⟨ds, rfl⟩ <;> simp [evalE, evalVs, bltV, viewE, getE, RF.R.bind, O.toD, eq_int, ofOpt]
  have s5 : evalE (cc m) (.and (.cons (.cmp .eq (.blt .len (.cons (.v 0) .nil)) (.blt .len (.cons (.v 1) .nil))) (.cons (.cmp .eq cxS (.lst .nil)) .nil))) [some (.z d), some (.z d), none] = .ok (zb true) [some (.z d), some (.z d), none] := by
    rw [evalE, and_t s4, and_1, c2]; rfl
  show RF.finish [false, false] (evalSs (cc m) Wf (.cons (.ite _ _ .nil) (.cons (.ite (.isi .lt (.v 1)) (.cons (.ite _ _ .nil) (.cons (.ret _) .nil)) .nil) _)) [some (.z d), some (.z d), none]) = _
  rw [nxt (ite_ff s1), nxr (show evalS (cc m) Wf (.ite (.isi .lt (.v 1)) _ .nil) [some (.z d), some (.z d), none] = .rt (zb true) [some (.z d), some (.z d), none] from ?_)]
  · rfl
  · rw [st_ite s2, if_pos rfl, nxt (ite_ff s3), nxr (ret_ok (fun i z => by cases z) s5)]
theorem same_self : ∀ (n k : Nat) {d : D}, Gd n d → n ≤ 50 → g (k + n + 1) f__law_same [.z d, .z d] = ret (zb true)
  | n, k, d, h, hn => by
    rcases gd_cases h with rfl | ⟨b, rfl⟩ | ⟨i, rfl⟩ | ⟨x, rfl⟩ | ⟨ds, rfl⟩ | ⟨ds, rfl⟩
    · rw [at__law_same]
      simp [runF, d__law_same, evalSs, evalS, evalE, evalOr, viewE, getE, RF.R.bind, O.toD, cmpop, D.isNon, D.isBl, ofOpt, Out.ofR, RF.finish, outs?]
    · rw [at__law_same]
      cases b <;> simp [runF, d__law_same, evalSs, evalS, evalE, evalOr, viewE, getE, RF.R.bind, O.toD, cmpop, D.isNon, D.isBl, ofOpt, Out.ofR, RF.finish, outs?]
    · rw [at__law_same]
      simp [runF, d__law_same, evalSs, evalS, evalE, evalOr, evalAnd, viewE, getE, RF.R.bind, O.toD, cmpop, D.isNon, D.isBl, ofOpt, Out.ofR, RF.finish, outs?, isiV, eqv_int, D.ok]
    · have hx : PySem.PyData.strOk x = true := by cases n <;> simpa [Gd] using h
      have e : D.eqv (.str x) (.str x) = true := by simp [D.eqv, D.py, PySem.PyData.eqv]
      rw [at__law_same]
      simp [runF, d__law_same, evalSs, evalS, evalE, evalOr, evalAnd, viewE, getE, RF.R.bind, O.toD, cmpop, D.isNon, D.isBl, ofOpt, Out.ofR, RF.finish, outs?, isiV, e, D.ok, hx]
    · cases n with
      | zero => simp [Gd] at h
      | succ n =>
        have h' := h
        simp only [Gd] at h'
        exact same_seq (k + (n + 1)) n h (.inl ⟨ds, rfl⟩) fun x hx => same_self n k (h'.2 x hx) (by omega)
    · cases n with
      | zero => simp [Gd] at h
      | succ n =>
        have h' := h
        simp only [Gd] at h'
        exact same_seq (k + (n + 1)) n h (.inr ⟨ds, rfl⟩) fun x hx => same_self n k (h'.2 x hx) (by omega)
/-! ### calls of a deed with its arguments -/
abbrev enC (f : Nat) (ds : List D) : RF.Env := [some (.z (.fn f)), some (.z (.lst ds))]
theorem len_is {C : Cfg} {f : Nat} {ds : List D} (j : Int) (b : Bool) (h : decide ((ds.length : Int) = j) = b) : evalE C (.cmp .eq (.blt .len (.cons (.v 1) .nil)) (.n j)) (enC f ds) = .ok (zb b) (enC f ds) := by
  rw [← h]
  exact eq_ok (x := (ds.length : Int)) (y := j) (blv_ok (vs1 (ev_v rfl)) rfl) ev_n
theorem arg_at {C : Cfg} {f j : Nat} {ds : List D} {d : D} (i : Int) (e : i = (j : Int)) (h : ds[j]? = some d) : evalE C (.ix (.v 1) (.n i)) (enC f ds) = .ok (.z d) (enC f ds) := by
  rw [e]
  exact ix_lst (j := j) rfl ev_n h
theorem ret_ex {m f : Nat} {ds : List D} {c : Nat} {us : List D} {es : Xs} {r : Ss} (hs : sigT T f = List.replicate ds.length false) (h : g m f (ds.map .z) = .ex c us) (he : evalArgs (cc m) es (List.replicate ds.length false) (enC f ds) = .ok (ds.map .val) (enC f ds)) : evalSs (cc m) Wf (.cons (.ret (.callv 0 es)) r) (enC f ds) = .ex c us := by
  have cl : evalE (cc m) (.callv 0 es) (enC f ds) = .ex c us := by
    rw [evalE]
    show (evalArgs (cc m) _ ((cc m).sig f) (enC f ds)).bind _ = _
    rw [show (cc m).sig f = List.replicate ds.length false from hs, he]
    simp only [RF.R.bind_ok]
    rw [do_val ds (show (cc m).sig f = _ from hs)]
    show back0 _ _ _ (g m f (ds.map .z)) = _
    rw [h]; rfl
  rw [evalSs, evalS, cl]
  · rfl
  · intro i z; cases z
abbrev rC (es : Xs) : Ss := .cons (.ret (.callv 0 es)) .nil
abbrev tC (j : Int) (es : Xs) : RF.S := .ite (.cmp .eq (.blt .len (.cons (.v 1) .nil)) (.n j)) (rC es) .nil
abbrev aC (j : Int) : RF.X := .ix (.v 1) (.n j)
theorem lcall {m f : Nat} {ds : List D} {c : Nat} {us : List D} (h0 : 1 ≤ ds.length) (h4 : ds.length ≤ 4) (hs : sigT T f = List.replicate ds.length false) (h : g m f (ds.map .z) = .ex c us) : g (m + 1) f__law_call [.z (.fn f), .z (.lst ds)] = .ex c us := by
  rw [at__law_call, run_eq (h := rfl)]
  show RF.finish [false, false] (evalSs (cc m) Wf (.cons (tC 1 (.cons (aC 0) .nil)) (.cons (tC 2 (.cons (aC 0) (.cons (aC 1) .nil))) (.cons (tC 3 (.cons (aC 0) (.cons (aC 1) (.cons (aC 2) .nil)))) (.cons (tC 4 (.cons (aC 0) (.cons (aC 1) (.cons (aC 2) (.cons (aC 3) .nil))))) _)))) (enC f ds)) = _
  rcases ds with _ | ⟨x1, _ | ⟨x2, _ | ⟨x3, _ | ⟨x4, _ | ⟨x5, r⟩⟩⟩⟩⟩
  · exact absurd h0 (by simp)
  · rw [evalSs, st_ite (len_is 1 true rfl), if_pos rfl, ret_ex hs h (arg_c (arg_at (j := 0) 0 rfl rfl) arg_0)]
    rfl
  · rw [nxt (ite_ff (len_is 1 false rfl)), evalSs, st_ite (len_is 2 true rfl), if_pos rfl, ret_ex hs h (arg_c (arg_at (j := 0) 0 rfl rfl) (arg_c (arg_at (j := 1) 1 rfl rfl) arg_0))]
    rfl
  · rw [nxt (ite_ff (len_is 1 false rfl)), nxt (ite_ff (len_is 2 false rfl)), evalSs, st_ite (len_is 3 true rfl), if_pos rfl, ret_ex hs h (arg_c (arg_at (j := 0) 0 rfl rfl) (arg_c (arg_at (j := 1) 1 rfl rfl) (arg_c (arg_at (j := 2) 2 rfl rfl) arg_0)))]
    rfl
  · rw [nxt (ite_ff (len_is 1 false rfl)), nxt (ite_ff (len_is 2 false rfl)), nxt (ite_ff (len_is 3 false rfl)), evalSs, st_ite (len_is 4 true rfl), if_pos rfl, ret_ex hs h (arg_c (arg_at (j := 0) 0 rfl rfl) (arg_c (arg_at (j := 1) 1 rfl rfl) (arg_c (arg_at (j := 2) 2 rfl rfl) (arg_c (arg_at (j := 3) 3 rfl rfl) arg_0))))]
    rfl
  · exact absurd h4 (by simp)
theorem mark_eq {m f : Nat} {ds : List D} {c : Nat} {d : D} (h : g m f__law_call [.z (.fn f), .z (.lst ds)] = .ex c [d]) : g (m + 1) f__law_mark [.z (.fn f), .z (.lst ds)] = ret (.z (.exc c [d])) := by
  rw [at__law_mark, run_eq (h := rfl)]
  have s1 : evalS (cc m) Wf (.set 2 .non) [some (.z (.fn f)), some (.z (.lst ds)), none, none] = .nx [some (.z (.fn f)), some (.z (.lst ds)), some (.z .non), none] := set_ok ev_non
  have c1 : evalE (cc m) (.call true f__law_call (.cons (.v 0) (.cons (.v 1) .nil))) [some (.z (.fn f)), some (.z (.lst ds)), some (.z .non), none] = .ex c [d] := rtx [.fn f, .lst ds] (sg__law_call _) (args2 rfl rfl) h
  have s2 : evalS (cc m) Wf (.tryE 3 2 (.call true f__law_call (.cons (.v 0) (.cons (.v 1) .nil)))) [some (.z (.fn f)), some (.z (.lst ds)), some (.z .non), none] = .nx [some (.z (.fn f)), some (.z (.lst ds)), some (.z (.exc c [d])), none] := by
    rw [evalS, c1]; rfl
  show RF.finish [false, false] (evalSs (cc m) Wf (.cons _ (.cons _ (.cons (.ret (.v 2)) .nil))) [some (.z (.fn f)), some (.z (.lst ds)), none, none]) = _
  rw [nxt s1, nxt s2, nxr (retv rfl)]
  rfl
abbrev k0 : PySem.Str := ⟨#[73, 110, 118, 97, 108, 105, 100, 79, 114, 100, 101, 114]⟩
abbrev k1 : PySem.Str := ⟨#[73, 110, 118, 97, 108, 105, 100, 84, 104, 105, 110, 103]⟩
abbrev k2 : PySem.Str := ⟨#[73, 110, 118, 97, 108, 105, 100, 78, 117, 109, 98, 101, 114]⟩
abbrev k3 : PySem.Str := ⟨#[73, 110, 118, 97, 108, 105, 100, 76, 111, 116]⟩
abbrev k4 : PySem.Str := ⟨#[84, 111, 111, 77, 97, 110, 121]⟩
def kindOf (c : Nat) : PySem.Str := match c with | 0 => k0 | 1 => k1 | 2 => k2 | 3 => k3 | _ => k4
theorem kind_eq (k c : Nat) (d : D) (hc : c < 5) : g (k + 1) f__law_is_kind [.z (.exc c [d]), .z (.str (kindOf c))] = ret (zb true) := by
  rw [at__law_is_kind, run_eq (h := rfl)]
  match c, hc with
  | 0, _ => kernel_rfl
  | 1, _ => kernel_rfl
  | 2, _ => kernel_rfl
  | 3, _ => kernel_rfl
  | 4, _ => kernel_rfl
theorem raised_eq {k f n : Nat} {ds : List D} {c : Nat} {d : D} (hc : c < 5) (h : g (k + n + 1) f__law_call [.z (.fn f), .z (.lst ds)] = .ex c [d]) (hg : Gd n d) (hn : n ≤ 50) : g (k + n + 3) f__law_raised [.z (.fn f), .z (.lst ds), .z (.str (kindOf c)), .z d] = ret (zb true) := by
  have mk := mark_eq h
  have sm := same_self n (k + 1) hg hn
  rw [show k + 1 + n + 1 = k + n + 2 by omega] at sm
  rw [at__law_raised, run_eq (h := rfl)]
  let e : RF.Env := [some (.z (.fn f)), some (.z (.lst ds)), some (.z (.str (kindOf c))), some (.z d), some (.z (.exc c [d]))]
  have s1 : evalS (cc (k + n + 2)) Wf (.set 4 (.call true f__law_mark (.cons (.v 0) (.cons (.v 1) .nil)))) [some (.z (.fn f)), some (.z (.lst ds)), some (.z (.str (kindOf c))), some (.z d), none] = .nx e := set_ok (rtv [.fn f, .lst ds] (sg__law_mark _) (args2 rfl rfl) mk)
  have a : evalE (cc (k + n + 2)) (.cmp .isn (.v 4) .non) e = .ok (zb true) e := cmp_ok (ev_v rfl) ev_non rfl
  have b : evalE (cc (k + n + 2)) (.call true f__law_is_kind (.cons (.v 4) (.cons (.v 2) .nil))) e = .ok (zb true) e := rtn [.exc c [d], .str (kindOf c)] (sg__law_is_kind _) (args2 rfl rfl) (kind_eq (k + n + 1) c d hc) rfl
  have at4 : evalE (cc (k + n + 2)) (.attr 4) e = .ok (.z d) e := by rw [evalE]; rfl
  have c3 : evalE (cc (k + n + 2)) (.call true f__law_same (.cons (.attr 4) (.cons (.v 3) .nil))) e = .ok (zb true) e := rtn [d, d] (sg__law_same _) (arg_c at4 (arg_c (ev_v rfl) arg_0)) sm rfl
  show RF.finish [false, false, false, false] (evalSs (cc (k + n + 2)) Wf (.cons _ (.cons (.ret _) .nil)) [some (.z (.fn f)), some (.z (.lst ds)), some (.z (.str (kindOf c))), some (.z d), none]) = _
  rw [nxt s1, nxr (ret_ok (by intro i z; cases z) (and3_ok a b c3))]
  rfl
theorem refused_eq {m f j : Nat} {ds : List D} {w : D} {kd : PySem.Str} (hl : ds.length < 1000) (hj : j ≤ ds.length)
    (h1 : g m f__law_raised [.z (.fn f), .z (.lst ((ds.take j ++ [w]) ++ (ds.drop (j + 1)).map fun _ => .non)), .z (.str kd), .z w] = ret (zb true))
    (h2 : g m f__law_raised [.z (.fn f), .z (.lst ((ds.take j ++ [w]) ++ ds.drop (j + 1))), .z (.str kd), .z w] = ret (zb true)) :
    g (m + 1) f__law_refused [.z (.fn f), .z (.lst ds), zi j, .z (.str kd), .z w] = ret (zb true) := by
  rw [at__law_refused, run_eq (h := rfl)]
  let e0 (b t : Option O) : RF.Env := [some (.z (.fn f)), some (.z (.lst ds)), some (zi j), some (.z (.str kd)), some (.z w), b, t]
  have tl : (ds.take j).length < 1000 := by rw [List.length_take]; omega
  have dl : (ds.drop (j + 1)).length < 1000 := by rw [List.length_drop]; omega
  have a1 (b t : Option O) : evalE (cc m) (.bin .add (.sl (.v 1) .none (.some (.v 2))) (.lst (.cons (.v 4) .nil))) (e0 b t) = .ok (.l ((ds.take j ++ [w]).map .z)) (e0 b t) :=
    cat_ok (sl_take rfl rfl hj) (lst1_ok (ev_v rfl)) (toD_lz _) rfl (by omega) (by simp)
  have dr (b t : Option O) : evalE (cc m) (.sl (.v 1) (.some (.bin .add (.v 2) (.n 1))) .none) (e0 b t) = .ok (.l ((ds.drop (j + 1)).map .z)) (e0 b t) := sl_drop rfl (add_ok (x := (j : Int)) (y := 1) (ev_v rfl) ev_n)
  have c : evalE (cc m) (.comp .non (.nm 6) (.seq (.sl (.v 1) (.some (.bin .add (.v 2) (.n 1))) .none)) .none [6]) (e0 none none) = .ok (.l ((ds.drop (j + 1)).map fun _ => .z .non)) (e0 none none) :=
    ev_compA (env1 := e0 none none) (ds.drop (j + 1)) (fun d => d) (fun _ => .z .non) (it_seq (dr none none) (by rw [toD_lz, List.map_id'])) (fun d _ => ⟨e0 none (some (.z d)), rfl, ev_non, rfl⟩) (by omega) rfl (fun _ _ => rfl)
  generalize hB : (ds.take j ++ [w]) ++ (ds.drop (j + 1)).map (fun _ => D.non) = B at h1
  have s1 : evalS (cc m) Wf (.set 5 (.bin .add (.bin .add (.sl (.v 1) .none (.some (.v 2))) (.lst (.cons (.v 4) .nil))) (.comp .non (.nm 6) (.seq (.sl (.v 1) (.some (.bin .add (.v 2) (.n 1))) .none)) .none [6]))) (e0 none none) = .nx (e0 (some (.l (B.map .z))) none) := by
    have q := cat_ok (a1 none none) c (toD_lz _) (ys := (ds.drop (j + 1)).map fun _ => D.non) (by
      rw [← toD_lz, List.map_map]; rfl) (by rw [List.length_append]; simp only [List.length_cons, List.length_nil]; omega) (by rw [List.length_map]; omega)
    rw [hB] at q
    exact set_ok q
  have ar1 : evalArgs (cc m) (.cons (.v 0) (.cons (.v 5) (.cons (.v 3) (.cons (.v 4) .nil)))) [false, false, false, false] (e0 (some (.l (B.map .z))) none) = .ok ([.fn f, .lst B, .str kd, w].map .val) (e0 (some (frz (.l (B.map .z)))) none) := by
    have v5 : evalE (cc m) (.v 5) (e0 (some (.l (B.map .z))) none) = .ok (frz (.l (B.map .z))) (e0 (some (frz (.l (B.map .z)))) none) := ev_vf (o := .l (B.map .z)) rfl rfl
    have r := arg_c (ev_v (C := cc m) (e := e0 (some (.l (B.map .z))) none) (i := 0) (d := .fn f) rfl) (arg_c v5 (arg_c (ev_v (i := 3) (d := .str kd) rfl) (arg_c (ev_v (i := 4) (d := w) rfl) arg_0)))
    rw [show (frz (.l (B.map .z))).toD = .lst B from toD_lz _] at r
    exact r
  have r1 := rtn [.fn f, .lst B, .str kd, w] (sg__law_raised m) ar1 h1 rfl
  have s2 := cat_ok (a1 (some (.l (B.map .z))) none) (dr (some (.l (B.map .z))) none) (toD_lz _) (toD_lz _) (by rw [List.length_append]; simp only [List.length_cons, List.length_nil]; omega) (by omega)
  generalize hF : (ds.take j ++ [w]) ++ ds.drop (j + 1) = FF at h2 s2
  have ar2 : evalArgs (cc m) (.cons (.v 0) (.cons (.bin .add (.bin .add (.sl (.v 1) .none (.some (.v 2))) (.lst (.cons (.v 4) .nil))) (.sl (.v 1) (.some (.bin .add (.v 2) (.n 1))) .none)) (.cons (.v 3) (.cons (.v 4) .nil)))) [false, false, false, false] (e0 (some (.l (B.map .z))) none) = .ok ([.fn f, .lst FF, .str kd, w].map .val) (e0 (some (.l (B.map .z))) none) := by
    have r := arg_c (ev_v (C := cc m) (e := e0 (some (.l (B.map .z))) none) (i := 0) (d := .fn f) rfl) (arg_c s2 (arg_c (ev_v (i := 3) (d := .str kd) rfl) (arg_c (ev_v (i := 4) (d := w) rfl) arg_0)))
    rw [toD_lz] at r
    exact r
  have r2 := rtn [.fn f, .lst FF, .str kd, w] (sg__law_raised m) ar2 h2 rfl
  show RF.finish [false, false, false, false, false] (evalSs (cc m) Wf (.cons (.set 5 _) (.cons (.ite (.not _) _ .nil) (.cons (.ret _) .nil))) (e0 none none)) = _
  rw [nxt s1, nxt (ite_ff (not_ok (b := true) r1)), nxr (ret_ok (by intro i z; cases z) r2)]
  rfl
abbrev deedD (fs : List (Nat × List D)) : D := .lst (fs.map fun p => .tup [.fn p.1, .lst p.2])
theorem all_refused_eq {m j : Nat} {fs : List (Nat × List D)} {ws : List D} {kd : PySem.Str} (hw : ws.length < 1000) (h : ∀ p ∈ fs, ∀ w ∈ ws, g m f__law_refused [.z (.fn p.1), .z (.lst p.2), zi j, .z (.str kd), .z w] = ret (zb true)) :
    g (m + 1) f__law_all_refused [.z (deedD fs), zi j, .z (.str kd), .z (.lst ws)] = ret (zb true) := by
  rw [at__law_all_refused, run_eq (h := rfl)]
  let e (a b c : Option O) : RF.Env := [some (.z (deedD fs)), some (zi j), some (.z (.str kd)), some (.z (.lst ws)), a, b, c]
  let cx : RF.X := .comp (.v 6) (.nm 6) (.seq (.v 3)) (.some (.not (.call true f__law_refused (.cons (.v 4) (.cons (.v 5) (.cons (.v 1) (.cons (.v 2) (.cons (.v 6) .nil)))))))) [6]
  let bd : Ss := .cons (.ite (.cmp .ne cx (.lst .nil)) (.cons (.ret (.tt false)) .nil) .nil) .nil
  have b1 : ∀ p ∈ fs, evalSs (cc m) Wf bd (e (some (.z (.fn p.1))) (some (.z (.lst p.2))) none) = .nx (e (some (.z (.fn p.1))) (some (.z (.lst p.2))) none) := fun p hp => by
    have c : evalE (cc m) cx (e (some (.z (.fn p.1))) (some (.z (.lst p.2))) none) = .ok (.l []) (e (some (.z (.fn p.1))) (some (.z (.lst p.2))) none) :=
      comp_nil ws (fun d => d) (it_seq (ev_v rfl) (by rw [List.map_id']; rfl)) (fun w hw => ⟨e (some (.z (.fn p.1))) (some (.z (.lst p.2))) (some (.z w)), rfl, not_ok (b := true) (rtn [.fn p.1, .lst p.2, .int j, .str kd, w] (sg__law_refused _) (arg_c (ev_v rfl) (arg_c (ev_v rfl) (arg_c (ev_v rfl) (arg_c (ev_v rfl) (arg_c (ev_v rfl) arg_0))))) (h p hp w hw) rfl), rfl⟩) (by omega) rfl
    show evalSs (cc m) Wf (.cons (.ite (.cmp .ne cx (.lst .nil)) _ .nil) .nil) _ = _
    rw [nxt (ite_ff (nen_f c)), nx0]
  obtain ⟨e', h1, x, y, h2⟩ := ev_for (t := .tp [4, 5]) (body := fun e => evalSs (cc m) Wf bd e) (q := fun (p : Nat × List D) => D.tup [.fn p.1, .lst p.2])
    (fun _ e' => ∃ x y, e' = e x y none) (xs := fs) (k := 0) (e := e none none none) ⟨none, none, rfl⟩ (fun i p e1 hj ⟨a, b, he⟩ => by
      subst he
      exact ⟨_, _, rfl, b1 p (List.mem_of_getElem? hj), _, _, rfl⟩)
  subst h2
  show RF.finish [false, false, false, false] (evalSs (cc m) Wf (.cons (.for (.tp [4, 5]) (.seq (.v 0)) bd) (.cons (.ret (.tt true)) .nil)) (e none none none)) = _
  rw [nxt (for_ok (it_seq (ev_v rfl) rfl) h1), nxr (ret_ok (by intro i z; cases z) ev_tt)]
  rfl
end K03
/-! K03c: what is an order; checks. -/
namespace K03
open RF MX
theorem and_fx {C : Cfg} {a b : RF.X} {es : Xs} {e : RF.Env} (h : evalE C a e = .ok (zb false) e) : evalE C (.and (.cons a (.cons b es))) e = .ok (zb false) e := by rw [evalE, and_f h]
theorem or_tx {C : Cfg} {a b : RF.X} {es : Xs} {e : RF.Env} (h : evalE C a e = .ok (zb true) e) : evalE C (.or (.cons a (.cons b es))) e = .ok (zb true) e := by rw [evalE, or_t h]
def isC : D → Bool
  | .int i => decide (0 ≤ i)
  | _ => false
def belowB (n : Int) : D → Bool
  | .int i => decide (0 ≤ i) && decide (i < n)
  | _ => false
theorem count_gen (k j : Nat) {d : D} (h : Gd j d) : g (k + 2) f_is_count [.z d] = ret (zb (isC d)) := by
  have w := whole_eq k j h
  rw [at_is_count, run_eq (h := rfl)]
  have c : evalE (cc (k + 1)) (.call true f_is_whole (.cons (.v 0) .nil)) [some (.z d)] = .ok (zb (isW d)) [some (.z d)] := rt1 w (sg_is_whole _) rfl rfl
  show RF.finish [false] (evalSs (cc (k + 1)) Wf (.cons (.ret (.and (.cons (.call true f_is_whole (.cons (.v 0) .nil)) (.cons (.cmp .ge (.v 0) (.n 0)) .nil)))) .nil) [some (.z d)]) = _
  rcases isW_cases d with e | ⟨i, rfl⟩
  · rw [e] at c
    rw [nxr (ret_ok (by intro i z; cases z) (and_fx c)), show isC d = false from by cases d <;> simp_all [isW, isC]]
    rfl
  · rw [nxr (ret_ok (by intro i z; cases z) (and2_ok c (ge_ok (ev_v rfl) ev_n)))]
    rfl
theorem below_gen (k j : Nat) (n : Int) {d : D} (h : Gd j d) : g (k + 3) f_is_below [.z d, zi n] = ret (zb (belowB n d)) := by
  have w := count_gen k j h
  rw [at_is_below, run_eq (h := rfl)]
  have c : evalE (cc (k + 2)) (.call true f_is_count (.cons (.v 0) .nil)) [some (.z d), some (zi n)] = .ok (zb (isC d)) [some (.z d), some (zi n)] := rt1 w (sg_is_count _) rfl rfl
  show RF.finish [false, false] (evalSs (cc (k + 2)) Wf (.cons (.ret (.and (.cons (.call true f_is_count (.cons (.v 0) .nil)) (.cons (.cmp .lt (.v 0) (.v 1)) .nil)))) .nil) [some (.z d), some (zi n)]) = _
  rcases isW_cases d with e | ⟨i, rfl⟩
  · have e2 : isC d = false := by cases d <;> simp_all [isW, isC]
    rw [e2] at c
    rw [nxr (ret_ok (by intro i z; cases z) (and_fx c)), show belowB n d = false from by cases d <;> simp_all [isW, belowB]]
    rfl
  · rw [nxr (ret_ok (by intro i z; cases z) (and2_ok c (lt_ok (ev_v rfl) (ev_v rfl))))]
    rfl
theorem below_some {n : Int} {d : D} (h : belowB n d = true) : ∃ i : Int, d = .int i ∧ 0 ≤ i ∧ i < n := by
  cases d <;> simp [belowB] at h
  exact ⟨_, rfl, h.1, h.2⟩
def pairB (n : Int) : D → Bool
  | .tup [a, b] => belowB n a && (belowB n b && !D.eqv a b)
  | _ => false
theorem pair_gen (k j : Nat) (n : Int) {d : D} (h : Gd (j + 1) d) : g (k + 4) f_is_pair [zi n, .z d] = ret (zb (pairB n d)) := by
  rw [at_is_pair, run_eq (h := rfl)]
  let e : RF.Env := [some (zi n), some (.z d)]
  let c : RF.X := .or (.cons (.not (.isi .tuple (.v 1))) (.cons (.cmp .ne (.blt .len (.cons (.v 1) .nil)) (.n 2)) .nil))
  have no : evalE (cc (k + 3)) c e = .ok (zb true) e → ∀ r : Ss, RF.finish [false, false] (evalSs (cc (k + 3)) Wf (.cons (.ite c (.cons (.ret (.tt false)) .nil) .nil) r) e) = ret (zb false) := fun h r => by
    rw [nxr (ite_tr h (by intro i z; cases z) ev_tt)]; rfl
  have nt : isiV .tuple d = some false → pairB n d = false → g (k + 4) f_is_pair [zi n, .z d] = ret (zb (pairB n d)) := fun h1 h2 => by
    rw [at_is_pair, run_eq (h := rfl), h2]
    exact no (or_tx (not_ok (b := false) (isi_ok (ev_v rfl) h1))) _
  rcases gd_cases h with rfl | ⟨b, rfl⟩ | ⟨i, rfl⟩ | ⟨x, rfl⟩ | ⟨ds, rfl⟩ | ⟨ds, rfl⟩
  · exact nt rfl rfl
  · exact nt rfl rfl
  · exact nt rfl rfl
  · exact nt rfl rfl
  · exact nt rfl rfl
  · by_cases h2 : ds.length = 2
    · obtain ⟨a, b, rfl⟩ : ∃ a b, ds = [a, b] := by
        match ds, h2 with
        | [a, b], _ => exact ⟨a, b, rfl⟩
      · have h' := h
        simp only [Gd] at h'
        have ga := h'.2 a (by simp)
        have gb := h'.2 b (by simp)
        have a0 : evalE (cc (k + 3)) (.ix (.v 1) (.n 0)) e = .ok (.z a) e := ix_tup (j := 0) rfl ev_n rfl
        have a1 : evalE (cc (k + 3)) (.ix (.v 1) (.n 1)) e = .ok (.z b) e := ix_tup (j := 1) rfl ev_n rfl
        have b0 : evalE (cc (k + 3)) (.call true f_is_below (.cons (.ix (.v 1) (.n 0)) (.cons (.v 0) .nil))) e = .ok (zb (belowB n a)) e := rtn [a, .int n] (sg_is_below _) (arg_c a0 (arg_c (ev_v rfl) arg_0)) (below_gen k j n ga) rfl
        have b1 : evalE (cc (k + 3)) (.call true f_is_below (.cons (.ix (.v 1) (.n 1)) (.cons (.v 0) .nil))) e = .ok (zb (belowB n b)) e := rtn [b, .int n] (sg_is_below _) (arg_c a1 (arg_c (ev_v rfl) arg_0)) (below_gen k j n gb) rfl
        have s1 : evalE (cc (k + 3)) c e = .ok (zb false) e := or2_ok (x := false) (y := false) (not_ok (b := true) (isi_ok (ev_v rfl) rfl)) (ne_ok (x := 2) (y := 2) (blv_ok (vs1 (ev_v rfl)) rfl) ev_n)
        have fin : evalE (cc (k + 3)) (.and (.cons (.call true f_is_below (.cons (.ix (.v 1) (.n 0)) (.cons (.v 0) .nil))) (.cons (.call true f_is_below (.cons (.ix (.v 1) (.n 1)) (.cons (.v 0) .nil))) (.cons (.cmp .ne (.ix (.v 1) (.n 0)) (.ix (.v 1) (.n 1))) .nil)))) e = .ok (zb (pairB n (.tup [a, b]))) e := by
          show _ = RF.R.ok (zb (belowB n a && (belowB n b && !D.eqv a b))) e
          cases qa : belowB n a with
          | false => rw [qa] at b0; exact and_fx b0
          | true =>
            rw [qa] at b0
            cases qb : belowB n b with
            | false =>
              rw [qb] at b1
              rw [evalE, and_t b0, and_f b1]; rfl
            | true =>
              rw [qb] at b1
              obtain ⟨i, rfl, _⟩ := below_some qa
              obtain ⟨i', rfl, _⟩ := below_some qb
              have q := and3_ok b0 b1 (ne_ok a0 a1)
              rw [eqv_int]
              exact q
        show RF.finish [false, false] (evalSs (cc (k + 3)) Wf (.cons (.ite c (.cons (.ret (.tt false)) .nil) .nil) (.cons (.ret _) .nil)) e) = _
        rw [nxt (ite_ff s1), nxr (ret_ok (by intro i z; cases z) fin)]
        rfl
    · have e2 : pairB n (.tup ds) = false := by
        match ds, h2 with
        | [], _ => rfl
        | [_], _ => rfl
        | [_, _], h2 => exact absurd rfl h2
        | _ :: _ :: _ :: _, _ => rfl
      rw [e2]
      have l := ne_ok (C := cc (k + 3)) (e := e) (a := .blt .len (.cons (.v 1) .nil)) (b := .n 2) (x := (ds.length : Int)) (y := 2) (blv_ok (vs1 (ev_v rfl)) rfl) ev_n
      rw [decide_eq_false (by omega)] at l
      exact no (or2_ok (x := false) (y := true) (not_ok (b := true) (isi_ok (ev_v rfl) rfl)) l) _
abbrev cxP : RF.X := .comp (.v 2) (.nm 2) (.seq (.v 1)) (.some (.not (.call true f_is_pair (.cons (.v 0) (.cons (.v 2) .nil))))) [2]
abbrev cnP : RF.X := .or (.cons (.not (.isi .list (.v 1))) (.cons (.cmp .ne cxP (.lst .nil)) .nil))
abbrev enP (n : Int) (d : D) (b x : Option O) : RF.Env := [some (zi n), some (.z d), x, none, b, none]
theorem cnP_eq (k : Nat) (n : Int) {ds : List D} (h : Gd 3 (.lst ds)) : evalE (cc (k + 4)) cnP (enP n (.lst ds) none none) = .ok (zb (!(ds.filter fun d => !pairB n d).isEmpty)) (enP n (.lst ds) none none) := by
  simp only [Gd] at h
  have q := ev_comp (C := cc (k + 4)) (elt := .v 2) (t := .nm 2) (it := .seq (.v 1)) (cd := .some (.not (.call true f_is_pair (.cons (.v 0) (.cons (.v 2) .nil))))) (own := [2]) (env := enP n (.lst ds) none none) (env1 := enP n (.lst ds) none none) ds (fun d => d) (fun d => !pairB n d) (fun d => .z d)
    (it_seq (ev_v rfl) (by rw [List.map_id']; rfl)) (fun d hd => ⟨enP n (.lst ds) none (some (.z d)), rfl, by rw [evalCond]; exact not_ok (rt2 (pair_gen k 1 n (h.2 d hd)) (sg_is_pair _) rfl rfl rfl), fun _ => ev_v rfl, rfl⟩) (by omega) rfl
  by_cases cl : ∀ d ∈ ds, (!pairB n d) = true → (O.z d).clean = true
  · have z := ne_nil_ok (by intro i z; cases z) (q cl) (fun d hd => ((h.2 d (List.mem_filter.mp hd).1).mono (by decide)).ok)
    exact or2_ok (x := false) (not_ok (b := true) (isi_ok (ev_v rfl) rfl)) z
  · have q := ev_compR (C := cc (k + 4)) (elt := .v 2) (t := .nm 2) (it := .seq (.v 1)) (cd := .some (.not (.call true f_is_pair (.cons (.v 0) (.cons (.v 2) .nil))))) (own := [2]) (env := enP n (.lst ds) none none) (env1 := enP n (.lst ds) none none) ds (fun d => d) (fun d => !pairB n d) (fun d => .z d)
      (it_seq (ev_v rfl) (by rw [List.map_id']; rfl)) (fun d hd => ⟨enP n (.lst ds) none (some (.z d)), rfl, by rw [evalCond]; exact not_ok (rt2 (pair_gen k 1 n (h.2 d hd)) (sg_is_pair _) rfl rfl rfl), fun _ => ev_v rfl, rfl⟩) (by omega) rfl
    have z := ne_nil_ok (by intro i z; cases z) q (fun d hd => ((h.2 d (List.mem_filter.mp hd).1).mono (by decide)).ok)
    exact or2_ok (x := false) (not_ok (b := true) (isi_ok (ev_v rfl) rfl)) z
theorem order_no (k : Nat) (n : Int) {d : D} (h : Gd 3 d) (hb : ∀ ds, d = .lst ds → ∃ x ∈ ds, pairB n x = false) : g (k + 5) f_is_order_of [zi n, .z d] = ret (zb false) := by
  have no : evalE (cc (k + 4)) cnP (enP n d none none) = .ok (zb true) (enP n d none none) → g (k + 5) f_is_order_of [zi n, .z d] = ret (zb false) := fun c => by
    rw [at_is_order_of, run_eq (h := rfl)]
    show RF.finish [false, false] (evalSs (cc (k + 4)) Wf (.cons (.ite cnP (.cons (.ret (.tt false)) .nil) .nil) _) (enP n d none none)) = _
    rw [nxr (ite_tr c (by intro i z; cases z) ev_tt)]; rfl
  rcases gd_cases h with rfl | ⟨b, rfl⟩ | ⟨i, rfl⟩ | ⟨x, rfl⟩ | ⟨ds, rfl⟩ | ⟨ds, rfl⟩
  · exact no (or_tx (not_ok (b := false) (isi_ok (ev_v rfl) rfl)))
  · exact no (or_tx (not_ok (b := false) (isi_ok (ev_v rfl) rfl)))
  · exact no (or_tx (not_ok (b := false) (isi_ok (ev_v rfl) rfl)))
  · exact no (or_tx (not_ok (b := false) (isi_ok (ev_v rfl) rfl)))
  · refine no ?_
    have q := cnP_eq k n h
    obtain ⟨x, hx, hp⟩ := hb ds rfl
    rw [ne_ex.mpr ⟨x, hx, by rw [hp]; rfl⟩] at q
    exact q
  · exact no (or_tx (not_ok (b := false) (isi_ok (ev_v rfl) rfl)))
/-! ### pairs of things -/
def ascB (P : Ps) : Bool := ((List.range (P.length - 1)).filter fun j => RX.geP (P.getD j (0, 0)).1 (P.getD j (0, 0)).2 (P.getD (j + 1) (0, 0)).1 (P.getD (j + 1) (0, 0)).2).isEmpty
def acB (n : Nat) (P : Ps) : Bool := ((List.range n).filter fun i => B n P i i).isEmpty
abbrev Vd (n : Nat) (P : Ps) : Prop := P.length < 900 ∧ ∀ p ∈ P, p.1 < n ∧ p.2 < n ∧ p.1 ≠ p.2
theorem gd_pD {P : Ps} (h : P.length < 900) : Gd 2 (pD P) := by
  simp only [Gd, ptD]
  refine ⟨by rw [List.length_map]; omega, fun d hd => ?_⟩
  obtain ⟨p, _, rfl⟩ := List.mem_map.mp hd
  simp [Gd]
theorem pairB_tp {n i j : Nat} (hi : i < n) (hj : j < n) (ne : i ≠ j) : pairB n (tp i j) = true := by
  have q := eqv_int i j
  rw [decide_eq_false (by omega)] at q
  simp only [pairB, belowB, q]
  simp
  omega
abbrev cxA : RF.X := .comp (.v 3) (.nm 3) (.rng2 (.n 1) (.blt .len (.cons (.v 1) .nil))) (.some (.cmp .ge (.ix (.v 1) (.bin .sub (.v 3) (.n 1))) (.ix (.v 1) (.v 3)))) [3]
theorem pt_at {P : Ps} {j : Nat} (h : j < P.length) : (ptD P)[j]? = some (tp (P.getD j (0, 0)).1 (P.getD j (0, 0)).2) := by
  rw [ptD, List.getElem?_map, List.getElem?_eq_getElem h]
  simp [List.getD, h]
theorem order_gen (k n : Nat) {P : Ps} (hn : n < 1000) (v : Vd n P) : g (k + 5) f_is_order_of [zi n, .z (pD P)] = ret (zb (ascB P && acB n P)) := by
  have c1 := cnP_eq k n (ds := ptD P) ((gd_pD v.1).mono (by decide))
  rw [show (ptD P).filter (fun d => !pairB n d) = [] from by
    rw [List.filter_eq_nil_iff]
    intro d hd
    obtain ⟨p, hp, rfl⟩ := List.mem_map.mp hd
    obtain ⟨h1, h2, h3⟩ := v.2 p hp
    rw [pairB_tp h1 h2 h3]; decide] at c1
  have c2 : evalE (cc (k + 4)) cxA (enP n (pD P) none none) = .ok (.l (((List.range (P.length - 1)).filter fun j => RX.geP (P.getD j (0, 0)).1 (P.getD j (0, 0)).2 (P.getD (j + 1) (0, 0)).1 (P.getD (j + 1) (0, 0)).2).map fun (j : Nat) => zi ((1 + j : Nat) : Int))) (enP n (pD P) none none) := by
    have l : evalE (cc (k + 4)) (.blt .len (.cons (.v 1) .nil)) (enP n (pD P) none none) = .ok (zi P.length) (enP n (pD P) none none) := blv_ok (vs1 (ev_v rfl)) (by simp [O.toD, bltV])
    refine ev_comp (List.range (P.length - 1)) (fun (j : Nat) => D.int (1 + j : Nat)) _ _ (it_rng2 (m := 1) (n := P.length) (by decide) (by have := v.1; omega) ev_n l) (fun j hj => ⟨[some (zi n), some (.z (pD P)), none, some (zi ((1 + j : Nat) : Int)), none, none], rfl, ?_, fun _ => ev_v rfl, rfl⟩) (by rw [List.length_range]; have := v.1; omega) rfl (fun _ _ _ => rfl)
    have hj := List.mem_range.mp hj
    have a : evalE (cc (k + 4)) (.bin .sub (.v 3) (.n 1)) [some (zi n), some (.z (pD P)), none, some (zi ((1 + j : Nat) : Int)), none, none] = .ok (zi (j : Int)) [some (zi n), some (.z (pD P)), none, some (zi ((1 + j : Nat) : Int)), none, none] := by
      rw [sub_ok (ev_v rfl) ev_n]
      congr 3
      omega
    rw [evalCond]
    rw [show j + 1 = 1 + j by omega]
    exact cmp_ok (ix_lst rfl a (pt_at (by omega))) (ix_lst (i := 1) (j := 1 + j) rfl (ev_v (i := 3) rfl) (pt_at (by omega))) rfl
  have z2 := ne_ok' (by intro i z; cases z) c2 (fun o ho => by
    obtain ⟨j, _, rfl⟩ := List.mem_map.mp ho
    rfl)
  rw [List.isEmpty_map] at z2
  have z2 : evalE (cc (k + 4)) (.cmp .ne cxA (.lst .nil)) (enP n (pD P) none none) = .ok (zb (!ascB P)) (enP n (pD P) none none) := z2
  rw [at_is_order_of, run_eq (h := rfl)]
  show RF.finish [false, false] (evalSs (cc (k + 4)) Wf (.cons (.ite cnP (.cons (.ret (.tt false)) .nil) .nil) (.cons (.ite (.cmp .ne cxA (.lst .nil)) (.cons (.ret (.tt false)) .nil) .nil) (.cons (.set 4 _) (.cons (.ret (.cmp .eq (.comp (.v 5) (.nm 5) (.rng1 (.v 0)) (.some (.ix2 4 (.v 5) (.v 5))) [5]) (.lst .nil))) .nil)))) (enP n (pD P) none none)) = _
  rw [nxt (ite_ff c1)]
  cases qa : ascB P with
  | false =>
    rw [qa] at z2
    rw [nxr (ite_tr z2 (by intro i z; cases z) ev_tt)]
    rfl
  | true =>
    rw [qa] at z2
    have s3 : evalS (cc (k + 4)) Wf (.set 4 (.call true f_reach_of (.cons (.v 0) (.cons (.v 1) .nil)))) (enP n (pD P) none none) = .nx (enP n (pD P) (some (mat n (B n P))) none) := set_ok (rt2 (reach_eq n P hn (k + 3)) (sg_reach_of _) rfl rfl (clean_mat n _))
    have c3 : evalE (cc (k + 4)) (.comp (.v 5) (.nm 5) (.rng1 (.v 0)) (.some (.ix2 4 (.v 5) (.v 5))) [5]) (enP n (pD P) (some (mat n (B n P))) none) = .ok (on ((List.range n).filter fun i => B n P i i)) (enP n (pD P) (some (mat n (B n P))) none) :=
      ev_comp (List.range n) (fun (j : Nat) => D.int j) (fun i => B n P i i) (fun (j : Nat) => zi j) (it_rngN (by omega) (ev_v rfl)) (fun j hj => ⟨[some (zi n), some (.z (pD P)), none, none, some (mat n (B n P)), some (zi j)], rfl, by
        have hj := List.mem_range.mp hj
        rw [evalCond]
        exact ix2_ok (i := 4) (a := .v 5) (b := .v 5) (F := B n P) rfl (ev_v rfl) (ev_v rfl) hj hj, fun _ => ev_v rfl, rfl⟩) (by rw [List.length_range]; omega) rfl (fun _ _ _ => rfl)
    have z3 := eq_ok' (by intro i z; cases z) c3 on_ok
    rw [List.isEmpty_map] at z3
    rw [nxt (ite_ff z2), nxt s3, nxr (ret_ok (by intro i z; cases z) z3)]
    rfl
theorem Ord.vd {n : Nat} {P : Ps} (o : Ord n P) (h : P.length < 900) : Vd n P := by
  obtain ⟨r, h1, _⟩ := o.rk
  exact ⟨h, fun p hp => ⟨(o.lt p hp).1, (o.lt p hp).2, fun e => by have := h1 p hp; rw [e] at this; omega⟩⟩
theorem Ord.asc {n : Nat} {P : Ps} (o : Ord n P) : ascB P = true := by
  unfold ascB
  rw [List.isEmpty_iff, List.filter_eq_nil_iff]
  intro j hj
  have hj := List.mem_range.mp hj
  have := List.pairwise_iff_getElem.mp o.srt j (j + 1) (by omega) (by omega) (by omega)
  rw [show P.getD j (0, 0) = P[j] from by simp [List.getD, show j < P.length by omega], show P.getD (j + 1) (0, 0) = P[j + 1] from by simp [List.getD, show j + 1 < P.length by omega]]
  simp only [RX.geP]
  split <;> simp <;> omega
theorem Ord.ac {n : Nat} {P : Ps} (o : Ord n P) : acB n P = true := by
  unfold acB
  rw [List.isEmpty_iff, List.filter_eq_nil_iff]
  intro j _
  rw [o.irr]; decide
theorem Ord.order (k : Nat) {n : Nat} {P : Ps} (o : Ord n P) (hn : n < 1000) (h : P.length < 900) : g (k + 5) f_is_order_of [zi n, .z (pD P)] = ret (zb true) := by
  rw [order_gen k n hn (o.vd h), o.asc, o.ac]; rfl
/-! ### checks -/
theorem chk_order (k : Nat) (n : Int) {d : D} {b : Bool} (h : g (k + 5) f_is_order_of [zi n, .z d] = ret (zb b)) : g (k + 6) f_check_order [zi n, .z d] = if b then ret (.z .non) else .ex 0 [d] := by
  rw [at_check_order, run_eq (h := rfl)]
  show RF.finish [false, false] (evalSs (cc (k + 5)) Wf (.cons (.ite (.not (.call true f_is_order_of (.cons (.v 0) (.cons (.v 1) .nil)))) (.cons (.raise 0 (.v 1)) .nil) .nil) .nil) [some (zi n), some (.z d)]) = _
  have c := not_ok (rt2 (e := [some (zi n), some (.z d)]) (i := 0) (j := 1) h (sg_is_order_of _) rfl rfl rfl)
  cases b with
  | true => rw [nxt (ite_ff c), nx0]; rfl
  | false =>
    rw [evalSs, st_ite c]
    rfl
theorem size_ok (k n : Nat) (h1 : 1 ≤ n) (h2 : n ≤ 12) : g (k + 3) f_check_size [zi n] = ret (.z .non) := by
  have w := whole_eq (k := k) 0 (d := .int n) (by simp [Gd])
  have s : g (k + 2) f_is_size [zi n] = ret (zb true) := by
    rw [at_is_size, run_eq (h := rfl)]
    show RF.finish [false] (evalSs (cc (k + 1)) Wf (.cons (.ret (.and (.cons (.call true f_is_whole (.cons (.v 0) .nil)) (.cons (.cmp2 .le .le (.n 1) (.v 0) (.gk 0 12)) .nil)))) .nil) [some (zi n)]) = _
    have c := cmp2_ok (C := cc (k + 1)) (e := [some (zi n)]) (p := .le) (q := .le) (a := .n 1) (b := .v 0) (c := .gk 0 12) (r := decide ((1 : Int) ≤ n)) (s := decide ((n : Int) ≤ 12)) ev_n (ev_v rfl) ev_gk rfl rfl
    rw [decide_eq_true (by omega), decide_eq_true (by omega)] at c
    rw [nxr (ret_ok (by intro i z; cases z) (and2_ok (rt1 w (sg_is_whole _) rfl rfl) c))]
    rfl
  rw [at_check_size, run_eq (h := rfl)]
  show RF.finish [false] (evalSs (cc (k + 2)) Wf (.cons (.ite (.not (.call true f_is_size (.cons (.v 0) .nil))) (.cons (.raise 2 (.v 0)) .nil) .nil) .nil) [some (zi n)]) = _
  rw [nxt (ite_ff (not_ok (b := true) (rt1 s (sg_is_size _) rfl rfl))), nx0]
  rfl
theorem chk_case (k n : Nat) {d : D} {b : Bool} (h1 : 1 ≤ n) (h2 : n ≤ 12) (h : g (k + 5) f_is_order_of [zi n, .z d] = ret (zb b)) : g (k + 7) f_check_case [zi n, .z d] = if b then ret (.z .non) else .ex 0 [d] := by
  have s := size_ok (k + 3) n h1 h2
  have c := chk_order k n h
  rw [at_check_case, run_eq (h := rfl)]
  show RF.finish [false, false] (evalSs (cc (k + 6)) Wf (.cons (.expr (.call true f_check_size (.cons (.v 0) .nil))) (.cons (.expr (.call true f_check_order (.cons (.v 0) (.cons (.v 1) .nil)))) .nil)) [some (zi n), some (.z d)]) = _
  rw [nxt (expr_ok (rt1 s (sg_check_size _) rfl rfl))]
  cases b with
  | true =>
    rw [if_pos rfl] at c
    rw [nxt (expr_ok (rt2 c (sg_check_order _) rfl rfl rfl)), nx0]
    rfl
  | false =>
    rw [if_neg Bool.false_ne_true] at c
    rw [expr_ex (rtx [.int n, d] (sg_check_order _) (args2 rfl rfl) c)]
    rfl
theorem case_size (k : Nat) {w d : D} (h : g (k + 3) f_check_size [.z w] = .ex 2 [w]) : g (k + 4) f_check_case [.z w, .z d] = .ex 2 [w] := by
  rw [at_check_case, run_eq (h := rfl)]
  show RF.finish [false, false] (evalSs (cc (k + 3)) Wf (.cons (.expr (.call true f_check_size (.cons (.v 0) .nil))) _) [some (.z w), some (.z d)]) = _
  rw [expr_ex (rtx [w] (sg_check_size _) (args1 rfl) h)]
  rfl
end K03
/-! K03d: all pairs, plain pairs, one row of all. -/
namespace K03
open RF MX
def aP (n : Nat) (P : Ps) : Nat → Ps
  | 0 => []
  | t + 1 => aP n P t ++ ((List.range n).filter fun o => B n P t o).map fun o => (t, o)
theorem aP_mem {n : Nat} {P : Ps} : ∀ {t : Nat} {p : Nat × Nat}, p ∈ aP n P t ↔ p.1 < t ∧ p.2 < n ∧ B n P p.1 p.2 = true
  | 0, p => by simp [aP]
  | t + 1, p => by
    rw [aP, List.mem_append, aP_mem, List.mem_map]
    constructor
    · rintro (h | ⟨o, ho, rfl⟩)
      · exact ⟨by omega, h.2⟩
      · have := List.mem_filter.mp ho
        exact ⟨by simp, by simpa using this.1, this.2⟩
    · intro h
      by_cases e : p.1 = t
      · right
        exact ⟨p.2, List.mem_filter.mpr ⟨List.mem_range.mpr h.2.1, by rw [← e]; exact h.2.2⟩, by rw [← e]⟩
      · left; exact ⟨by omega, h.2⟩
theorem aP_len (n : Nat) (P : Ps) (t : Nat) : (aP n P t).length ≤ t * n := by
  induction t with
  | zero => simp [aP]
  | succ t ih =>
    rw [aP, List.length_append, List.length_map, Nat.succ_mul]
    have := List.length_filter_le (fun o => B n P t o) (List.range n)
    rw [List.length_range] at this
    omega
theorem take_filter {α : Type} {xs : List α} {j : Nat} {x : α} {f : α → Bool} (h : xs[j]? = some x) : (xs.take (j + 1)).filter f = (xs.take j).filter f ++ if f x then [x] else [] := by
  rw [List.take_add_one, h, List.filter_append]
  simp only [Option.toList_some, List.filter_cons, List.filter_nil]
theorem toD_len (n : Nat) (F : Nat → Nat → Bool) : bltV .len [(mat n F).toD] = some (zi n) := by rw [toD_mat]; simp [bltV]
theorem on_snoc (F : List Nat) (x : Nat) : on (F ++ [x]) = .l ((F.map fun (i : Nat) => zi i) ++ [zi x]) := by rw [on, List.map_append]; rfl
theorem head_ix {xs : List Nat} (h : xs ≠ []) : ∃ hl : 0 < xs.length, xs[0] = xs.headD 0 := by
  cases xs with
  | nil => exact absurd rfl h
  | cons x xs => exact ⟨by simp, rfl⟩
theorem foldl_min : ∀ (xs : List Int) (x : Int), (∀ y ∈ xs, x ≤ y) → xs.foldl min x = x
  | [], _, _ => rfl
  | y :: xs, x, h => by
    rw [List.foldl_cons, show min x y = x from by have := h y List.mem_cons_self; omega]
    exact foldl_min xs x fun z hz => h z (List.mem_cons_of_mem _ hz)
theorem min_asc {xs : List Nat} (h : xs ≠ []) (hp : xs.Pairwise fun a b => a < b) : bltV .min1 [nD xs] = some (zi (xs.headD 0)) := by
  have im : ints? (xs.map fun (i : Nat) => D.int i) = some (xs.map fun (i : Nat) => (i : Int)) := by
    have := ints_map (xs.map fun (i : Nat) => (i : Int))
    rw [List.map_map] at this
    exact this
  simp only [bltV, im, Option.bind_some]
  cases xs with
  | nil => exact absurd rfl h
  | cons x xs =>
    rw [List.map_cons, List.min?_cons', foldl_min]
    · rfl
    · intro y hy
      obtain ⟨z, hz, rfl⟩ := List.mem_map.mp hy
      have := (List.pairwise_cons.mp hp).1 z hz
      omega
section
variable (n : Nat) (P : Ps) (hn : n < 1000)
include hn
theorem sq_lt {a : Nat} (h : a ≤ n * n) : a < 2 ^ 20 := by
  have : n * n ≤ 1000 * 1000 := Nat.mul_le_mul (by omega) (by omega)
  omega
abbrev enQ (n : Nat) (P : Ps) (F : Option O) (a b : Option O) : RF.Env := [some (zi n), some (.z (pD P)), some (mat n (B n P)), F, a, b]
abbrev cxQ : RF.X := .comp (.tup (.cons (.v 4) (.cons (.v 5) .nil))) (.nm 5) (.rng1 (.v 0)) (.some (.ix2 2 (.v 4) (.v 5))) [5]
theorem cxQ_eq (m t : Nat) (F : Option O) (ht : t < n) : evalE (cc m) cxQ (enQ n P F (some (zi t)) none) = .ok (ptO (((List.range n).filter fun o => B n P t o).map fun o => (t, o))) (enQ n P F (some (zi t)) none) := by
  have q := ev_comp (C := cc m) (elt := .tup (.cons (.v 4) (.cons (.v 5) .nil))) (t := .nm 5) (it := .rng1 (.v 0)) (cd := .some (.ix2 2 (.v 4) (.v 5))) (own := [5]) (env := enQ n P F (some (zi t)) none) (env1 := enQ n P F (some (zi t)) none) (List.range n) (fun (j : Nat) => D.int j) (fun o => B n P t o) (fun o => .z (tp t o))
    (it_rngN (by omega) (ev_v rfl)) (fun o ho => ⟨enQ n P F (some (zi t)) (some (zi o)), rfl, by rw [evalCond]; exact ix2_ok (F := B n P) rfl (ev_v rfl) (ev_v rfl) ht (List.mem_range.mp ho), fun _ => tup2_ok (ev_v rfl) (ev_v rfl), rfl⟩)
    (by rw [List.length_range]; omega) rfl (fun _ _ _ => rfl)
  rw [show ptO (((List.range n).filter fun o => B n P t o).map fun o => (t, o)) = .l (((List.range n).filter fun o => B n P t o).map fun o => .z (tp t o)) from by rw [ptO, List.map_map, List.map_map]; rfl]
  exact q
theorem pairs_eq (k : Nat) : g (k + 2) f_all_pairs_of [zi n, .z (pD P)] = ret (ptO (aP n P n)) := by
  rw [at_all_pairs_of, run_eq (h := rfl)]
  let e : RF.Env := [some (zi n), some (.z (pD P)), none, none, none, none]
  let e1 : RF.Env := [some (zi n), some (.z (pD P)), some (mat n (B n P)), none, none, none]
  have s1 : evalS (cc (k + 1)) Wf (.set 2 (.call true f_reach_of (.cons (.v 0) (.cons (.v 1) .nil)))) e = .nx e1 := set_ok (rt2 (reach_eq n P hn k) (sg_reach_of _) rfl rfl (clean_mat n _))
  have s2 : evalS (cc (k + 1)) Wf (.set 3 (.lst .nil)) e1 = .nx (enQ n P (some (ptO (aP n P 0))) none none) := set_ok ev_nil
  obtain ⟨e', h1, x, h2⟩ := ev_for (t := .nm 4) (body := fun e => evalSs (cc (k + 1)) Wf (.cons (.set 3 (.bin .add (.v 3) cxQ)) .nil) e) (q := fun (j : Nat) => D.int j)
    (fun t e => ∃ x, e = enQ n P (some (ptO (aP n P t))) x none) (xs := List.range n) (k := 0) (e := enQ n P (some (ptO (aP n P 0))) none none) ⟨none, rfl⟩ (fun t x e hj ⟨a, he⟩ => by
      obtain ⟨h, rfl⟩ := List.getElem?_eq_some_iff.mp hj
      simp only [List.length_range] at h
      simp only [List.getElem_range, Nat.zero_add] at he ⊢
      subst he
      have s : evalS (cc (k + 1)) Wf (.set 3 (.bin .add (.v 3) cxQ)) (enQ n P (some (ptO (aP n P t))) (some (zi t)) none) = .nx (enQ n P (some (ptO (aP n P (t + 1)))) (some (zi t)) none) := by
        have q := grow (C := cc (k + 1)) (Wx := Wf) (i := 3) (os := (ptD (aP n P t)).map .z) rfl (flat_lz _) rfl (toDs_z _) (cxQ_eq n P hn (k + 1) t (some (ptO (aP n P t))) h) (toD_lz _) (by
          rw [List.length_map]
          have := aP_len n P t
          exact sq_lt n hn (Nat.le_trans this (Nat.mul_le_mul_right n (by omega)))) (by
          rw [List.length_map, List.length_map]
          have := List.length_filter_le (fun o => B n P t o) (List.range n)
          rw [List.length_range] at this
          omega)
        rw [← List.map_append] at q
        exact q
      exact ⟨enQ n P (some (ptO (aP n P t))) (some (zi t)) none, _, rfl, by rw [nxt s, nx0], _, rfl⟩)
  rw [Nat.zero_add, List.length_range] at h2
  subst h2
  show RF.finish [false, false] (evalSs (cc (k + 1)) Wf (.cons _ (.cons _ (.cons (.for (.nm 4) (.rng1 (.v 0)) (.cons (.set 3 (.bin .add (.v 3) cxQ)) .nil)) (.cons (.ret (.v 3)) .nil)))) e) = _
  rw [nxt s1, nxt s2, nxt (for_ok (it_rngN (by omega) (ev_v rfl)) h1), nxr (retv rfl)]
  rfl
/-! ### plain pairs -/
def plB (n : Nat) (P : Ps) (p : Nat × Nat) : Bool := ((List.range n).filter fun k => B n P p.1 k && B n P k p.2).isEmpty
def plP (n : Nat) (P : Ps) : Ps := (aP n P n).filter fun p => plB n P p
abbrev enM (n : Nat) (P : Ps) (F a b c : Option O) : RF.Env := [some (zi n), some (.z (pD P)), some (mat n (B n P)), F, a, b, c]
abbrev cxM : RF.X := .comp (.v 6) (.nm 6) (.rng1 (.v 0)) (.some (.and (.cons (.ix2 2 (.v 4) (.v 6)) (.cons (.ix2 2 (.v 6) (.v 5)) .nil)))) [6]
theorem cxM_eq (m : Nat) (F : Option O) (p : Nat × Nat) (h1 : p.1 < n) (h2 : p.2 < n) : evalE (cc m) (.cmp .eq cxM (.lst .nil)) (enM n P F (some (zi p.1)) (some (zi p.2)) none) = .ok (zb (plB n P p)) (enM n P F (some (zi p.1)) (some (zi p.2)) none) := by
  have q : evalE (cc m) cxM (enM n P F (some (zi p.1)) (some (zi p.2)) none) = .ok (on ((List.range n).filter fun k => B n P p.1 k && B n P k p.2)) (enM n P F (some (zi p.1)) (some (zi p.2)) none) :=
    ev_comp (List.range n) (fun (j : Nat) => D.int j) (fun k => B n P p.1 k && B n P k p.2) (fun (k : Nat) => zi k) (it_rngN (by omega) (ev_v rfl)) (fun k hk => ⟨enM n P F (some (zi p.1)) (some (zi p.2)) (some (zi k)), rfl, by rw [evalCond]; exact and2_ok (ix2_ok rfl (ev_v rfl) (ev_v rfl) h1 (List.mem_range.mp hk)) (ix2_ok rfl (ev_v rfl) (ev_v rfl) (List.mem_range.mp hk) h2), fun _ => ev_v rfl, rfl⟩) (by rw [List.length_range]; omega) rfl (fun _ _ _ => rfl)
  have z := eq_ok' (by intro i z; cases z) q on_ok
  rw [List.isEmpty_map] at z
  exact z
theorem plain_eq (k : Nat) : g (k + 3) f_plain_pairs_of [zi n, .z (pD P)] = ret (ptO (plP n P)) := by
  rw [at_plain_pairs_of, run_eq (h := rfl)]
  have p : g (k + 2) f_all_pairs_of [zi n, .z (pD P)] = ret (ptO (aP n P n)) := pairs_eq n P hn k
  let e : RF.Env := [some (zi n), some (.z (pD P)), none, none, none, none, none]
  have s1 : evalS (cc (k + 2)) Wf (.set 2 (.call true f_reach_of (.cons (.v 0) (.cons (.v 1) .nil)))) e = .nx (enM n P none none none none) := set_ok (rt2 (reach_eq n P hn (k + 1)) (sg_reach_of _) rfl rfl (clean_mat n _))
  have s2 : evalS (cc (k + 2)) Wf (.set 3 (.lst .nil)) (enM n P none none none none) = .nx (enM n P (some (ptO (((aP n P n).take 0).filter fun p => plB n P p))) none none none) := set_ok ev_nil
  have ca : evalE (cc (k + 2)) (.call true f_all_pairs_of (.cons (.v 0) (.cons (.v 1) .nil))) (enM n P (some (ptO (((aP n P n).take 0).filter fun p => plB n P p))) none none none) = .ok (ptO (aP n P n)) (enM n P (some (ptO (((aP n P n).take 0).filter fun p => plB n P p))) none none none) := rt2 p (sg_all_pairs_of _) rfl rfl (clean_pt _)
  let bd : Ss := .cons (.ite (.cmp .eq cxM (.lst .nil)) (.cons (.app 3 (.tup (.cons (.v 4) (.cons (.v 5) .nil)))) .nil) .nil) .nil
  have al := aP_len n P n
  obtain ⟨e', h1, x, y, h2⟩ := ev_for (t := .tp [4, 5]) (body := fun e => evalSs (cc (k + 2)) Wf bd e) (q := fun (p : Nat × Nat) => tp p.1 p.2)
    (fun t e => ∃ x y, e = enM n P (some (ptO (((aP n P n).take t).filter fun p => plB n P p))) x y none) (xs := aP n P n) (k := 0) (e := enM n P (some (ptO (((aP n P n).take 0).filter fun p => plB n P p))) none none none) ⟨none, none, rfl⟩ (fun t p e hj ⟨a, b, he⟩ => by
      rw [Nat.zero_add] at he ⊢
      subst he
      have hp := aP_mem.mp (List.mem_of_getElem? hj)
      have c := cxM_eq n P hn (k + 2) (some (ptO (((aP n P n).take t).filter fun p => plB n P p))) p hp.1 hp.2.1
      have ll : (((aP n P n).take t).filter fun p => plB n P p).length < 2 ^ 20 := by
        have := List.length_filter_le (fun p => plB n P p) ((aP n P n).take t)
        rw [List.length_take] at this
        exact sq_lt n hn (by omega)
      have tf := take_filter (f := fun p => plB n P p) hj
      refine ⟨enM n P (some (ptO (((aP n P n).take t).filter fun p => plB n P p))) (some (zi p.1)) (some (zi p.2)) none, enM n P (some (ptO (((aP n P n).take (t + 1)).filter fun p => plB n P p))) (some (zi p.1)) (some (zi p.2)) none, rfl, ?_, _, _, rfl⟩
      rw [tf]
      show evalSs (cc (k + 2)) Wf (.cons (.ite (.cmp .eq cxM (.lst .nil)) _ .nil) .nil) _ = _
      generalize ((aP n P n).take t).filter (fun p => plB n P p) = F at c ll ⊢
      cases q : plB n P p with
      | false =>
        rw [q] at c
        rw [nxt (ite_ff c), nx0]
        simp
      | true =>
        rw [q] at c
        have s := app_ok (C := cc (k + 2)) (W := Wf) (i := 3) (a := .tup (.cons (.v 4) (.cons (.v 5) .nil))) (e := enM n P (some (ptO F)) (some (zi p.1)) (some (zi p.2)) none) (os := (ptD F).map .z) (o := .z (tp p.1 p.2)) rfl (tup2_ok (ev_v rfl) (ev_v rfl)) (by rw [List.length_map, List.length_map]; exact ll)
        rw [evalSs, st_ite c, if_pos rfl, nxt s, nx0]
        show evalSs _ _ .nil _ = _
        rw [nx0]
        show RF.Out.nx (enM n P (some (.l ((ptD F).map .z ++ [.z (tp p.1 p.2)]))) _ _ _) = .nx (enM n P (some (ptO (F ++ [p]))) _ _ _)
        rw [show ptO (F ++ [p]) = .l ((ptD F).map .z ++ [.z (tp p.1 p.2)]) from by rw [ptO, ptD, List.map_append, List.map_append]; rfl])
  rw [Nat.zero_add, List.take_length] at h2
  subst h2
  show RF.finish [false, false] (evalSs (cc (k + 2)) Wf (.cons _ (.cons _ (.cons (.for (.tp [4, 5]) (.seq (.call true f_all_pairs_of (.cons (.v 0) (.cons (.v 1) .nil)))) bd) (.cons (.ret (.v 3)) .nil)))) e) = _
  rw [nxt s1, nxt s2, nxt (for_ok (it_seq ca (toD_pt _)) h1), nxr (retv rfl)]
  rfl
/-! ### one row -/
theorem free_eq (k x : Nat) (F : List Nat) (hx : x < n) : g (k + 1) f_is_free [.z (mat n (B n P)).toD, .z (nD F), zi x] = ret (zb (freeB n P F x)) := by
  rw [at_is_free, run_eq (h := rfl)]
  let e (o : Option O) : RF.Env := [some (.z (mat n (B n P)).toD), some (.z (nD F)), some (zi x), o]
  have l : evalE (cc k) (.blt .len (.cons (.v 0) .nil)) (e none) = .ok (zi n) (e none) := blv_ok (vs1 (ev_v rfl)) (toD_len n _)
  have q : evalE (cc k) (.comp (.v 3) (.nm 3) (.rng1 (.blt .len (.cons (.v 0) .nil))) (.some (.and (.cons (.ix2 0 (.v 3) (.v 2)) (.cons (.cmp .nmem (.v 3) (.v 1)) .nil)))) [3]) (e none) = .ok (on ((List.range n).filter fun o => B n P o x && !decide (o ∈ F))) (e none) :=
    ev_comp (List.range n) (fun (j : Nat) => D.int j) _ (fun (o : Nat) => zi o) (it_rngN (by omega) l) (fun o ho => ⟨e (some (zi o)), rfl, by
      rw [evalCond]
      exact and2_ok (ix2z_ok (i := 0) (n := n) (F := B n P) rfl rfl (ev_v rfl) (ev_v rfl) (List.mem_range.mp ho) hx) (SeeN.nmem (SeeN.z rfl) (ev_v rfl)), fun _ => ev_v rfl, rfl⟩) (by rw [List.length_range]; omega) rfl (fun _ _ _ => rfl)
  have z := eq_ok' (by intro i z; cases z) q on_ok
  rw [List.isEmpty_map] at z
  show RF.finish [false, false, false] (evalSs (cc k) Wf (.cons (.ret _) .nil) (e none)) = _
  rw [nxr (ret_ok (by intro i z; cases z) z)]
  rfl
abbrev enW (n : Nat) (P : Ps) (F : List Nat) (a b c : Option O) : RF.Env := [some (zi n), some (.z (pD P)), some (mat n (B n P)), some (on F), a, b, c]
abbrev cxW : RF.X := .comp (.v 6) (.nm 6) (.rng1 (.v 0)) (.some (.and (.cons (.cmp .nmem (.v 6) (.v 3)) (.cons (.call true f_is_free (.cons (.v 2) (.cons (.v 3) (.cons (.v 6) .nil)))) .nil)))) [6]
theorem cxW_eq (k : Nat) (F : List Nat) (a b : Option O) : evalE (cc (k + 1)) cxW (enW n P F a b none) = .ok (on (ableL n P F)) (enW n P F a b none) :=
  ev_comp (List.range n) (fun (j : Nat) => D.int j) (fun x => !decide (x ∈ F) && freeB n P F x) (fun (o : Nat) => zi o) (it_rngN (by omega) (ev_v rfl)) (fun x hx => ⟨enW n P F a b (some (zi x)), rfl, by
    rw [evalCond]
    have ar := arg_c (C := cc (k + 1)) (ev_vz (C := cc (k + 1)) (e := enW n P F a b (some (zi x))) (i := 2) (o := mat n (B n P)) rfl) (arg_c (ev_vz (i := 3) (o := on F) rfl) (arg_c (ev_v (i := 6) (d := .int x) rfl) arg_0))
    rw [show (frz (on F)).toD = nD F from toD_on F] at ar
    exact and2_ok (SeeN.nmem (SeeN.l rfl) (ev_v rfl)) (rtn [(mat n (B n P)).toD, nD F, .int x] (sg_is_free _) ar (free_eq n P hn k x F (List.mem_range.mp hx)) rfl), fun _ => ev_v rfl, rfl⟩) (by rw [List.length_range]; omega) rfl (fun _ _ _ => rfl)
theorem row_eq (k : Nat) (o : Ord n P) : g (k + 2) f_running_order [zi n, .z (pD P)] = ret (on (runL n P n)) := by
  rw [at_running_order, run_eq (h := rfl)]
  let e : RF.Env := [some (zi n), some (.z (pD P)), none, none, none, none, none]
  have s1 : evalS (cc (k + 1)) Wf (.set 2 (.call true f_reach_of (.cons (.v 0) (.cons (.v 1) .nil)))) e = .nx [some (zi n), some (.z (pD P)), some (mat n (B n P)), none, none, none, none] := set_ok (rt2 (reach_eq n P hn k) (sg_reach_of _) rfl rfl (clean_mat n _))
  have s2 : evalS (cc (k + 1)) Wf (.set 3 (.lst .nil)) [some (zi n), some (.z (pD P)), some (mat n (B n P)), none, none, none, none] = .nx (enW n P (runL n P 0) none none none) := set_ok ev_nil
  let bd : Ss := .cons (.set 5 cxW) (.cons (.app 3 (.ix (.v 5) (.n 0))) .nil)
  obtain ⟨e', h1, x, y, h2⟩ := ev_for (t := .nm 4) (body := fun e => evalSs (cc (k + 1)) Wf bd e) (q := fun (j : Nat) => D.int j)
    (fun t e => ∃ x y, e = enW n P (runL n P t) x y none) (xs := List.range n) (k := 0) (e := enW n P (runL n P 0) none none none) ⟨none, none, rfl⟩ (fun t x e hj ⟨a, b, he⟩ => by
      obtain ⟨h, rfl⟩ := List.getElem?_eq_some_iff.mp hj
      simp only [List.length_range] at h
      simp only [List.getElem_range, Nat.zero_add] at he ⊢
      subst he
      have rk := o.run t (by omega)
      obtain ⟨hl, hh⟩ := head_ix (o.able_ne (F := runL n P t) (by rw [rk.len]; omega))
      have t1 : evalS (cc (k + 1)) Wf (.set 5 cxW) (enW n P (runL n P t) (some (zi t)) b none) = .nx (enW n P (runL n P t) (some (zi t)) (some (on (ableL n P (runL n P t)))) none) := set_ok (cxW_eq n P hn k (runL n P t) (some (zi t)) b)
      have ix := SeeN.ix (C := cc (k + 1)) (e := enW n P (runL n P t) (some (zi t)) (some (on (ableL n P (runL n P t)))) none) (i := 5) (b := .n 0) (j := 0) (SeeN.l rfl) rfl ev_n hl
      rw [hh] at ix
      have t2 : evalS (cc (k + 1)) Wf (.app 3 (.ix (.v 5) (.n 0))) (enW n P (runL n P t) (some (zi t)) (some (on (ableL n P (runL n P t)))) none) = .nx (enW n P (runL n P (t + 1)) (some (zi t)) (some (on (ableL n P (runL n P t)))) none) := by
        have q := app_ok (W := Wf) (i := 3) (os := (runL n P t).map fun (i : Nat) => zi i) rfl ix (by rw [List.length_map, rk.len]; omega)
        rw [q]
        exact congrArg (fun o => RF.Out.nx [some (zi n), some (.z (pD P)), some (mat n (B n P)), some o, some (zi t), some (on (ableL n P (runL n P t))), none]) (on_snoc (runL n P t) ((ableL n P (runL n P t)).headD 0)).symm
      exact ⟨enW n P (runL n P t) (some (zi t)) b none, _, rfl, by show evalSs _ _ (.cons (.set 5 cxW) (.cons _ .nil)) _ = _; rw [nxt t1, nxt t2, nx0], _, _, rfl⟩)
  rw [Nat.zero_add, List.length_range] at h2
  subst h2
  show RF.finish [false, false] (evalSs (cc (k + 1)) Wf (.cons _ (.cons _ (.cons (.for (.nm 4) (.rng1 (.v 0)) bd) (.cons (.ret (.v 3)) .nil)))) e) = _
  rw [nxt s1, nxt s2, nxt (for_ok (it_rngN (by omega) (ev_v rfl)) h1), nxr (retv rfl)]
  rfl
/-! ### .. by the law -/
abbrev enV (n : Nat) (P : Ps) (F : List Nat) (a b c d : Option O) : RF.Env := [some (zi n), some (.z (pD P)), some (mat n (B n P)), some (on F), a, b, c, d]
abbrev cxV1 : RF.X := .comp (.v 7) (.nm 7) (.rng1 (.v 0)) (.some (.and (.cons (.ix2 2 (.v 7) (.v 6)) (.cons (.cmp .nmem (.v 7) (.v 3)) .nil)))) [7]
abbrev cxV : RF.X := .comp (.v 6) (.nm 6) (.rng1 (.v 0)) (.some (.and (.cons (.cmp .nmem (.v 6) (.v 3)) (.cons (.cmp .eq cxV1 (.lst .nil)) .nil)))) [6]
theorem cxV_eq (k : Nat) (F : List Nat) (a b : Option O) : evalE (cc k) cxV (enV n P F a b none none) = .ok (on (ableL n P F)) (enV n P F a b none none) :=
  ev_comp (List.range n) (fun (j : Nat) => D.int j) (fun x => !decide (x ∈ F) && freeB n P F x) (fun (o : Nat) => zi o) (it_rngN (by omega) (ev_v rfl)) (fun x hx => ⟨enV n P F a b (some (zi x)) none, rfl, by
    rw [evalCond]
    have q : evalE (cc k) cxV1 (enV n P F a b (some (zi x)) none) = .ok (on ((List.range n).filter fun o => B n P o x && !decide (o ∈ F))) (enV n P F a b (some (zi x)) none) :=
      ev_comp (List.range n) (fun (j : Nat) => D.int j) _ (fun (o : Nat) => zi o) (it_rngN (by omega) (ev_v rfl)) (fun o ho => ⟨enV n P F a b (some (zi x)) (some (zi o)), rfl, by
        rw [evalCond]
        exact and2_ok (ix2_ok (F := B n P) rfl (ev_v rfl) (ev_v rfl) (List.mem_range.mp ho) (List.mem_range.mp hx)) (SeeN.nmem (SeeN.l rfl) (ev_v rfl)), fun _ => ev_v rfl, rfl⟩) (by rw [List.length_range]; omega) rfl (fun _ _ _ => rfl)
    have z := eq_ok' (by intro i z; cases z) q on_ok
    rw [List.isEmpty_map] at z
    exact and2_ok (SeeN.nmem (SeeN.l rfl) (ev_v rfl)) z, fun _ => ev_v rfl, rfl⟩) (by rw [List.length_range]; omega) rfl (fun _ _ _ => rfl)
theorem lrow_eq (k : Nat) (o : Ord n P) : g (k + 2) f__law_in_a_row [zi n, .z (pD P)] = ret (on (runL n P n)) := by
  rw [at__law_in_a_row, run_eq (h := rfl)]
  let e : RF.Env := [some (zi n), some (.z (pD P)), none, none, none, none, none, none]
  have s1 : evalS (cc (k + 1)) Wf (.asg [2, 3] (.tup (.cons (.call true f__law_before (.cons (.v 0) (.cons (.v 1) .nil))) (.cons (.lst .nil) .nil)))) e = .nx (enV n P (runL n P 0) none none none none) := asg2 (tupT (rt2 (o.before n k hn) (sg__law_before _) rfl rfl (clean_mat n _)) ev_nil rfl)
  let bd : Ss := .cons (.set 5 cxV) (.cons (.app 3 (.blt .min1 (.cons (.v 5) .nil))) .nil)
  obtain ⟨e', h1, x, y, h2⟩ := ev_for (t := .nm 4) (body := fun e => evalSs (cc (k + 1)) Wf bd e) (q := fun (j : Nat) => D.int j)
    (fun t e => ∃ x y, e = enV n P (runL n P t) x y none none) (xs := List.range n) (k := 0) (e := enV n P (runL n P 0) none none none none) ⟨none, none, rfl⟩ (fun t x e hj ⟨a, b, he⟩ => by
      obtain ⟨h, rfl⟩ := List.getElem?_eq_some_iff.mp hj
      simp only [List.length_range] at h
      simp only [List.getElem_range, Nat.zero_add] at he ⊢
      subst he
      have rk := o.run t (by omega)
      have ne := o.able_ne (F := runL n P t) (by rw [rk.len]; omega)
      have pw : (ableL n P (runL n P t)).Pairwise fun a b => a < b := List.Pairwise.filter _ List.pairwise_lt_range
      have t1 : evalS (cc (k + 1)) Wf (.set 5 cxV) (enV n P (runL n P t) (some (zi t)) b none none) = .nx (enV n P (runL n P t) (some (zi t)) (some (on (ableL n P (runL n P t)))) none none) := set_ok (cxV_eq n P hn (k + 1) (runL n P t) (some (zi t)) b)
      have v : evalVs (cc (k + 1)) (.cons (.v 5) .nil) (enV n P (runL n P t) (some (zi t)) (some (on (ableL n P (runL n P t)))) none none) = .ok [nD (ableL n P (runL n P t))] (enV n P (runL n P t) (some (zi t)) (some (on (ableL n P (runL n P t)))) none none) := by
        rw [evalVs]
        simp only [pureXs]
        rw [(SeeN.l (xs := ableL n P (runL n P t)) rfl).view]
        simp only [RF.R.bind_ok]
        rw [evalVs]
        rfl
      have t2 : evalS (cc (k + 1)) Wf (.app 3 (.blt .min1 (.cons (.v 5) .nil))) (enV n P (runL n P t) (some (zi t)) (some (on (ableL n P (runL n P t)))) none none) = .nx (enV n P (runL n P (t + 1)) (some (zi t)) (some (on (ableL n P (runL n P t)))) none none) := by
        have q := app_ok (W := Wf) (i := 3) (os := (runL n P t).map fun (i : Nat) => zi i) rfl (blv_ok v (min_asc ne pw)) (by rw [List.length_map, rk.len]; omega)
        rw [q]
        exact congrArg (fun o => RF.Out.nx [some (zi n), some (.z (pD P)), some (mat n (B n P)), some o, some (zi t), some (on (ableL n P (runL n P t))), none, none]) (on_snoc (runL n P t) ((ableL n P (runL n P t)).headD 0)).symm
      exact ⟨enV n P (runL n P t) (some (zi t)) b none none, _, rfl, by show evalSs _ _ (.cons (.set 5 cxV) (.cons _ .nil)) _ = _; rw [nxt t1, nxt t2, nx0], _, _, rfl⟩)
  rw [Nat.zero_add, List.length_range] at h2
  subst h2
  show RF.finish [false, false] (evalSs (cc (k + 1)) Wf (.cons _ (.cons (.for (.nm 4) (.rng1 (.v 0)) bd) (.cons (.ret (.v 3)) .nil))) e) = _
  rw [nxt s1, nxt (for_ok (it_rngN (by omega) (ev_v rfl)) h1), nxr (retv rfl)]
  rfl
end
end K03
/-! K03e: upper lots. -/
namespace K03
open RF MX
theorem compX {α : Type} {C : Cfg} {elt : RF.X} {t : Tg} {it : RF.It} {cd : Xo} {own : List Nat} {env env1 : RF.Env} (xs : List α) (q : α → D) (p : α → Bool) (f : α → O) (h1 : evalIt C it env = .ok (xs.map q) env1)
    (h2 : ∀ x ∈ xs, ∃ e1, tgE t (.z (q x)) (wipeE env1 own) = some e1 ∧ evalCond C cd e1 = .ok (zb (p x)) e1 ∧ (p x = true → evalE C elt e1 = .ok (f x) e1) ∧ wipeE e1 own = wipeE env1 own)
    (hl : xs.length ≤ 2 ^ 20) : ∃ e', evalE C (.comp elt t it cd own) env = .ok (.l ((xs.filter p).map f)) e' := by
  have go := comp_go (acc := []) h2 (by simpa using hl)
  rw [List.nil_append] at go
  rw [evalE, h1]
  simp only [RF.R.bind_ok, go]
  exact ⟨_, rfl⟩
/-- a list of a slot grows by the list of another -/
theorem grow3 {C : Cfg} {Wx i j : Nat} {e : RF.Env} {os us : List O} {ds fs : List D} (hi : getE e i = some (.l os)) (hj : getE e j = some (.l us)) (hij : i ≠ j) (ho : O.toDs os = ds) (hu : O.toDs us = fs) (h1 : ds.length < 2 ^ 20) (h2 : fs.length < 2 ^ 20) : ∃ w, evalS C Wx (.set i (.bin .add (.v i) (.v j))) e = .nx ((e.set j (some w)).set i (some (.l ((ds ++ fs).map .z)))) := by
  have td : (O.l os).toD = .lst ds := by simp only [O.toD, ho]
  have tu : (O.l us).toD = .lst fs := by simp only [O.toD, hu]
  have gj : ∀ w, getE (e.set i (some w)) j = some (.l us) := fun w => by
    unfold getE
    rw [List.getElem?_set_ne hij]
    exact hj
  -- the second operand
  have second : ∀ e1 : RF.Env, getE e1 j = some (.l us) → ∃ w, viewE true (.v j) (evalE C (.v j) e1) e1 = .ok (.lst fs) (e1.set j (some w)) := fun e1 g1 => by
    by_cases hf : (O.l us).flat = true
    · refine ⟨.l us, ?_⟩
      rw [set_self g1]
      simp only [viewE, g1, hf, Bool.and_self, if_true, tu]
    · refine ⟨frz (.l us), ?_⟩
      simp only [viewE, g1, hf, Bool.and_false, Bool.false_eq_true, if_false, ev_vz g1, RF.R.bind_ok]
      show RF.R.ok (frz (.l us)).toD _ = _
      rw [show (frz (.l us)).toD = .lst fs from tu]
  have bo : binop .add (.lst ds) (.lst fs) = some (.l ((ds ++ fs).map .z)) := by simp only [binop, lenOk_of h1, lenOk_of h2, Bool.and_self, if_true]
  by_cases hf : (O.l os).flat = true
  · obtain ⟨w, q⟩ := second e hj
    refine ⟨w, set_ok ?_⟩
    rw [evalE]
    have v0 : viewE (pureX (.v j)) (.v i) (evalE C (.v i) e) e = .ok (.lst ds) e := by
      simp only [viewE, hi, hf, pureX, Bool.and_self, if_true, td]
    rw [v0]
    simp only [RF.R.bind_ok, q, bo, ofOpt_some]
  · obtain ⟨w, q⟩ := second (e.set i (some (frz (.l os)))) (gj _)
    refine ⟨w, ?_⟩
    have x : evalE C (.bin .add (.v i) (.v j)) e = .ok (.l ((ds ++ fs).map .z)) ((e.set i (some (frz (.l os)))).set j (some w)) := by
      rw [evalE]
      have v0 : viewE (pureX (.v j)) (.v i) (evalE C (.v i) e) e = .ok (.lst ds) (e.set i (some (frz (.l os)))) := by
        simp only [viewE, hi, hf, Bool.and_false, Bool.false_eq_true, if_false, ev_vz hi, RF.R.bind_ok]
        show RF.R.ok (frz (.l os)).toD _ = _
        rw [show (frz (.l os)).toD = .lst ds from td]
      rw [v0]
      simp only [RF.R.bind_ok, q, bo, ofOpt_some]
    rw [set_ok x, List.set_comm _ _ hij, List.set_set]
theorem ints_n (xs : List Nat) : ints? (xs.map fun (i : Nat) => D.int i) = some (ipl xs) := by
  have := ints_map (ipl xs)
  rw [ipl, List.map_map] at this
  exact this
theorem nD_il (xs : List Nat) : nD xs = ilD (ipl xs) := by
  unfold ilD ipl
  rw [List.map_map]
  rfl
theorem ilists_map (xs : List (List Int)) : ilists? (xs.map ilD) = some xs := by
  induction xs with
  | nil => rfl
  | cons x xs ih =>
    rw [List.map_cons]
    show (ints? (x.map D.int)).bind _ = _
    rw [ints_map, Option.bind_some, ih]
    rfl
abbrev srtO (Ls : List (List Int)) : O := .l (((RX.sortL Ls).map ilD).map .z)
theorem sortLL {Ls : List (List Int)} (h : Ls ≠ []) : bltV .sorted [.lst (Ls.map ilD)] = some (srtO Ls) := by
  have e1 : ints? (Ls.map ilD) = none := by
    cases Ls with
    | nil => exact absurd rfl h
    | cons x xs => rfl
  have e2 : pairs? (Ls.map ilD) = none := by
    cases Ls with
    | nil => exact absurd rfl h
    | cons x xs => rfl
  show sortD _ = _
  unfold sortD
  rw [e1]
  simp only
  rw [e2]
  simp only
  rw [ilists_map]
  rfl
theorem sortN (xs : List Nat) : bltV .sorted [nD xs] = some (.l (((RX.sortI (ipl xs)).map D.int).map .z)) := by
  show sortD _ = _
  unfold sortD
  rw [ints_n]
theorem on_cat (lot : List Nat) (x : Nat) : O.l ((lot.map (fun (i : Nat) => D.int i) ++ [D.int x]).map .z) = on (lot ++ [x]) := by
  rw [List.map_append, List.map_map, on, List.map_append]
  rfl
theorem toDs_on (L : List (List Nat)) : O.toDs (L.map on) = L.map nD := by
  rw [O.toDs_map, List.map_map]
  exact List.map_congr_left fun l _ => toD_on l
theorem upF_snoc {n : Nat} {P : Ps} (x : Nat) : ∀ (xs : List Nat) (L : List (List Nat)), upF n P (xs ++ [x]) L = upStep n P (upF n P xs L) x
  | [], L => rfl
  | y :: xs, L => by rw [List.cons_append, upF, upF, upF_snoc x xs]
section
variable (n : Nat) (P : Ps) (hn : n ≤ 12)
include hn
abbrev enU (n : Nat) (P : Ps) (os : List O) (a b c d l : Option O) : RF.Env := [some (zi n), some (.z (pD P)), some (mat n (B n P)), some (.l os), a, b, c, d, l]
abbrev cxB : RF.X := .comp (.v 6) (.nm 6) (.rng1 (.v 0)) (.some (.ix2 2 (.v 4) (.v 6))) [6]
theorem cxB_eq (m x : Nat) (os : List O) (b d : Option O) (hx : x < n) : evalE (cc m) cxB (enU n P os (some (zi x)) b none d none) = .ok (on (behL n P x)) (enU n P os (some (zi x)) b none d none) :=
  ev_comp (List.range n) (fun (j : Nat) => D.int j) (fun o => B n P x o) (fun (o : Nat) => zi o) (it_rngN (by omega) (ev_v rfl)) (fun o ho => ⟨enU n P os (some (zi x)) b (some (zi o)) d none, rfl, by
    rw [evalCond]
    exact ix2_ok (F := B n P) rfl (ev_v rfl) (ev_v rfl) hx (List.mem_range.mp ho), fun _ => ev_v rfl, rfl⟩) (by rw [List.length_range]; omega) rfl (fun _ _ _ => rfl)
abbrev cxI : RF.X := .comp (.v 6) (.nm 6) (.seq (.v 5)) (.some (.cmp .nmem (.v 6) (.v 8))) [6]
abbrev cxJ : RF.X := .comp (.bin .add (.v 8) (.lst (.cons (.v 4) .nil))) (.nm 8) (.seq (.v 3)) (.some (.cmp .eq cxI (.lst .nil))) [8]
theorem beh_len (x : Nat) : (behL n P x).length ≤ 12 := by
  have := List.length_filter_le (fun o => B n P x o) (List.range n)
  rw [List.length_range] at this
  exact Nat.le_trans this hn
theorem cxI_eq (m x : Nat) (w : O) (lot : List Nat) (d : Option O) (e : RF.Env) (he : e = [some (zi n), some (.z (pD P)), some (mat n (B n P)), some w, some (zi x), some (on (behL n P x)), none, d, some (.z (nD lot))]) : evalE (cc m) (.cmp .eq cxI (.lst .nil)) e = .ok (zb (upC n P x lot)) e := by
  subst he
  have bl := beh_len n P hn x
  have q := ev_comp (C := cc m) (elt := .v 6) (t := .nm 6) (it := .seq (.v 5)) (cd := .some (.cmp .nmem (.v 6) (.v 8))) (own := [6]) (env := [some (zi n), some (.z (pD P)), some (mat n (B n P)), some w, some (zi x), some (on (behL n P x)), none, d, some (.z (nD lot))]) (env1 := [some (zi n), some (.z (pD P)), some (mat n (B n P)), some w, some (zi x), some (frz (on (behL n P x))), none, d, some (.z (nD lot))])
    (behL n P x) (fun (j : Nat) => D.int j) (fun o => !decide (o ∈ lot)) (fun (o : Nat) => zi o) (it_seq (ev_vz (i := 5) (o := on (behL n P x)) rfl) (toD_on _)) (fun o ho => ⟨[some (zi n), some (.z (pD P)), some (mat n (B n P)), some w, some (zi x), some (frz (on (behL n P x))), some (zi o), d, some (.z (nD lot))], rfl, by
      rw [evalCond]
      exact SeeN.nmem (SeeN.z rfl) (ev_v rfl), fun _ => ev_v rfl, rfl⟩) (by omega) rfl (fun _ _ _ => rfl)
  have z := eq_ok' (by intro i z; cases z) q on_ok
  rw [List.isEmpty_map] at z
  exact z
theorem cxJ_eq (m x : Nat) (os : List O) (L : List (List Nat)) (d : Option O) (ho : O.toDs os = L.map nD) (hl : L.length ≤ 4096) (hs : ∀ l ∈ L, l.length < 1000) : evalE (cc m) cxJ (enU n P os (some (zi x)) (some (on (behL n P x))) none d none) = .ok (.l (((L.filter fun lot => upC n P x lot).map fun lot => lot ++ [x]).map on)) (enU n P os (some (zi x)) (some (on (behL n P x))) none d none) := by
  have td : (O.l os).toD = .lst (L.map nD) := by simp only [O.toD, ho]
  have q := ev_comp (C := cc m) (elt := .bin .add (.v 8) (.lst (.cons (.v 4) .nil))) (t := .nm 8) (it := .seq (.v 3)) (cd := .some (.cmp .eq cxI (.lst .nil))) (own := [8]) (env := enU n P os (some (zi x)) (some (on (behL n P x))) none d none) (env1 := [some (zi n), some (.z (pD P)), some (mat n (B n P)), some (frz (.l os)), some (zi x), some (on (behL n P x)), none, d, none])
    L nD (fun lot => upC n P x lot) (fun lot => on (lot ++ [x])) (it_seq (ev_vz (i := 3) (o := .l os) rfl) td) (fun lot hlot => ⟨[some (zi n), some (.z (pD P)), some (mat n (B n P)), some (frz (.l os)), some (zi x), some (on (behL n P x)), none, d, some (.z (nD lot))], rfl, by
      rw [evalCond]
      exact cxI_eq n P hn m x _ lot d _ rfl, fun _ => by
        have := hs lot hlot
        rw [← on_cat]
        exact cat_ok (ev_v rfl) (lst1_ok (ev_v rfl)) rfl rfl (by rw [List.length_map]; omega) (by simp), rfl⟩) (by omega) rfl (fun lot _ _ => clean_on _)
  rw [List.map_map]
  exact q
theorem uppers_eq (k : Nat) (o : Ord n P) : g (k + 3) f_upper_lots_of [zi n, .z (pD P)] = ret (srtO ((lawU n P).map ipl)) := by
  rw [at_upper_lots_of, run_eq (h := rfl)]
  have hn' : n < 1000 := by omega
  have rk := o.run n (Nat.le_refl n)
  obtain ⟨R, hR⟩ : ∃ R, R = (runL n P n).reverse := ⟨_, rfl⟩
  have Rl : R.length = n := by rw [hR, List.length_reverse, rk.len]
  have Rm : ∀ x ∈ R, x < n := fun x hx => rk.lt x (List.mem_reverse.mp (by rw [← hR]; exact hx))
  have nodp : ∀ j, UpOk n P (R.take j) (upF n P (R.take j) [[]]) := fun j => by
    have h := o.up_all (R.take j) [] [[]] UpOk.start (by
      rw [List.nil_append]
      refine List.Nodup.sublist (List.take_sublist j R) ?_
      rw [hR]
      unfold List.Nodup
      rw [List.pairwise_reverse]
      exact rk.nd.imp fun h => h.symm) (by
      rw [List.nil_append]
      refine List.Pairwise.sublist (List.take_sublist j R) ?_
      rw [hR, List.pairwise_reverse]
      exact rk.top)
    rw [List.nil_append] at h
    exact h
  have Ll : ∀ j, (upF n P (R.take j) [[]]).length ≤ 4096 := fun j => by
    have := upF_len (n := n) (P := P) (R.take j) [[]]
    have l : (R.take j).length ≤ 12 := by rw [List.length_take]; omega
    have p := Nat.pow_le_pow_right (n := 2) (by decide) l
    have : ([[]] : List (List Nat)).length * 2 ^ (R.take j).length ≤ 1 * 2 ^ 12 := Nat.mul_le_mul (Nat.le_refl _) p
    omega
  have Lb : ∀ j, ∀ l ∈ upF n P (R.take j) [[]], l.length < 1000 := fun j l hl => by
    have u := nodp j
    have := nd_le (u.nd l hl) (u.sub l hl)
    rw [List.length_take] at this
    omega
  let e : RF.Env := [some (zi n), some (.z (pD P)), none, none, none, none, none, none, none]
  have s1 : evalS (cc (k + 2)) Wf (.set 2 (.call true f_reach_of (.cons (.v 0) (.cons (.v 1) .nil)))) e = .nx [some (zi n), some (.z (pD P)), some (mat n (B n P)), none, none, none, none, none, none] := set_ok (rt2 (reach_eq n P hn' (k + 1)) (sg_reach_of _) rfl rfl (clean_mat n _))
  have s2 : evalS (cc (k + 2)) Wf (.set 3 (.lst (.cons (.lst .nil) .nil))) [some (zi n), some (.z (pD P)), some (mat n (B n P)), none, none, none, none, none, none] = .nx (enU n P [.l []] none none none none none) := set_ok (lst1_ok ev_nil)
  have rc : evalE (cc (k + 2)) (.call true f_running_order (.cons (.v 0) (.cons (.v 1) .nil))) (enU n P [.l []] none none none none none) = .ok (on (runL n P n)) (enU n P [.l []] none none none none none) := rt2 (row_eq n P hn' k o) (sg_running_order _) rfl rfl (clean_on _)
  have rv : evalE (cc (k + 2)) (.rev (.call true f_running_order (.cons (.v 0) (.cons (.v 1) .nil)))) (enU n P [.l []] none none none none none) = .ok (.l ((R.map fun (i : Nat) => D.int i).map .z)) (enU n P [.l []] none none none none none) := by
    rw [evalE, vw rc, toD_on]
    simp only [RF.R.bind_ok]
    rw [hR]
    simp only [List.map_reverse]
  let bd : Ss := .cons (.set 5 cxB) (.cons (.set 7 cxJ) (.cons (.set 3 (.bin .add (.v 3) (.v 7))) .nil))
  obtain ⟨e', h1, os, a, b, d, ho, h2⟩ := ev_for (t := .nm 4) (body := fun e => evalSs (cc (k + 2)) Wf bd e) (q := fun (j : Nat) => D.int j)
    (fun t e => ∃ os a b d, O.toDs os = (upF n P (R.take t) [[]]).map nD ∧ e = enU n P os a b none d none) (xs := R) (k := 0) (e := enU n P [.l []] none none none none none) ⟨[.l []], none, none, none, by rw [List.take_zero]; rfl, rfl⟩ (fun t x e hj ⟨os, a, b, d, ho, he⟩ => by
      rw [Nat.zero_add] at ho ⊢
      subst he
      have hx := Rm x (List.mem_of_getElem? hj)
      have tk : R.take (t + 1) = R.take t ++ [x] := by rw [List.take_add_one, hj]; rfl
      have t1 : evalS (cc (k + 2)) Wf (.set 5 cxB) (enU n P os (some (zi x)) b none d none) = .nx (enU n P os (some (zi x)) (some (on (behL n P x))) none d none) := set_ok (cxB_eq n P hn (k + 2) x os b d hx)
      have t2 : evalS (cc (k + 2)) Wf (.set 7 cxJ) (enU n P os (some (zi x)) (some (on (behL n P x))) none d none) = .nx (enU n P os (some (zi x)) (some (on (behL n P x))) none (some (.l ((((upF n P (R.take t) [[]]).filter fun lot => upC n P x lot).map fun lot => lot ++ [x]).map on))) none) := set_ok (cxJ_eq n P hn (k + 2) x os _ d ho (Ll t) (Lb t))
      obtain ⟨w, t3⟩ := grow3 (C := cc (k + 2)) (Wx := Wf) (i := 3) (j := 7) (e := enU n P os (some (zi x)) (some (on (behL n P x))) none (some (.l ((((upF n P (R.take t) [[]]).filter fun lot => upC n P x lot).map fun lot => lot ++ [x]).map on))) none) (os := os) rfl rfl (by decide) ho (toDs_on _) (by rw [List.length_map]; have := Ll t; omega) (by
        rw [List.length_map, List.length_map]
        have := Ll t
        have := List.length_filter_le (fun lot => upC n P x lot) (upF n P (R.take t) [[]])
        omega)
      refine ⟨enU n P os (some (zi x)) b none d none, _, rfl, by show evalSs _ _ (.cons (.set 5 cxB) (.cons (.set 7 cxJ) (.cons _ .nil))) _ = _; rw [nxt t1, nxt t2, nxt t3]; exact nx0, (((upF n P (R.take t) [[]]).map nD ++ (((upF n P (R.take t) [[]]).filter fun lot => upC n P x lot).map fun lot => lot ++ [x]).map nD).map .z), _, _, _, ?_, rfl⟩
      rw [toDs_z, tk, upF_snoc, upStep, List.map_append])
  rw [Nat.zero_add, List.take_length] at ho
  subst h2
  have td : (O.l os).toD = .lst ((upF n P R [[]]).map nD) := by simp only [O.toD, ho]
  have ll := Ll R.length
  rw [List.take_length] at ll
  have c1 : evalE (cc (k + 2)) (.comp (.blt .sorted (.cons (.v 8) .nil)) (.nm 8) (.seq (.v 3)) .none [8]) (enU n P os a b none d none) = .ok (.l ((upF n P R [[]]).map fun lot => .l (((RX.sortI (ipl lot)).map D.int).map .z))) (enU n P os a b none d none) :=
    ev_compA (env1 := [some (zi n), some (.z (pD P)), some (mat n (B n P)), some (frz (.l os)), a, b, none, d, none]) (upF n P R [[]]) nD (fun lot => .l (((RX.sortI (ipl lot)).map D.int).map .z)) (it_seq (ev_vz (i := 3) (o := .l os) rfl) td) (fun lot hlot => ⟨[some (zi n), some (.z (pD P)), some (mat n (B n P)), some (frz (.l os)), a, b, none, d, some (.z (nD lot))], rfl, blv_ok (vs1 (ev_v rfl)) (sortN lot), rfl⟩) (by omega) rfl (fun lot _ => by
      simp only [O.clean]
      rw [O.cleans_all, List.all_eq_true]
      intro o ho
      obtain ⟨i, hi, rfl⟩ := List.mem_map.mp ho
      obtain ⟨j, _, rfl⟩ := List.mem_map.mp hi
      rfl)
  have tdc : (O.l ((upF n P R [[]]).map fun lot => O.l (((RX.sortI (ipl lot)).map D.int).map .z))).toD = .lst (((upF n P R [[]]).map fun lot => RX.sortI (ipl lot)).map ilD) := by
    simp only [O.toD]
    rw [O.toDs_map, List.map_map, List.map_map]
    refine congrArg D.lst (List.map_congr_left fun lot _ => ?_)
    show (O.l (((RX.sortI (ipl lot)).map D.int).map .z)).toD = .lst ((RX.sortI (ipl lot)).map D.int)
    generalize (RX.sortI (ipl lot)).map D.int = xs
    exact toD_lz xs
  have ne : ((upF n P R [[]]).map fun lot => RX.sortI (ipl lot)) ≠ [] := by
    have u := nodp R.length
    rw [List.take_length] at u
    obtain ⟨l, hl, _⟩ := u.all (fun _ => False) (fun _ z => z.elim) (fun _ _ z => z.elim)
    intro z
    rw [List.map_eq_nil_iff] at z
    rw [z] at hl
    cases hl
  have c2 : evalE (cc (k + 2)) (.blt .sorted (.cons (.comp (.blt .sorted (.cons (.v 8) .nil)) (.nm 8) (.seq (.v 3)) .none [8]) .nil)) (enU n P os a b none d none) = .ok (srtO ((lawU n P).map ipl)) (enU n P os a b none d none) := by
    have q := vs1 c1
    rw [tdc] at q
    have := blv_ok q (sortLL ne)
    rw [srtO, hR, o.uppers_run] at this
    exact this
  generalize srtO ((lawU n P).map ipl) = U at c2 ⊢
  show RF.finish [false, false] (evalSs (cc (k + 2)) Wf (.cons _ (.cons _ (.cons (.for (.nm 4) (.seq (.rev (.call true f_running_order (.cons (.v 0) (.cons (.v 1) .nil))))) bd) (.cons (.ret _) .nil)))) e) = _
  rw [nxt s1, nxt s2, nxt (for_ok (it_seq rv (toD_lz _)) h1), nxr (ret_ok (by intro i z; cases z) c2)]
  rfl
/-! ### .. by the law -/
abbrev cxG : RF.X := .comp (.bin .add (.v 4) (.lst (.cons (.v 3) .nil))) (.nm 4) (.seq (.v 2)) .none [4]
abbrev cxH1 : RF.X := .comp (.v 5) (.nm 5) (.seq (.v 1)) (.some (.and (.cons (.cmp .mem (.ix (.v 5) (.n 0)) (.v 4)) (.cons (.cmp .nmem (.ix (.v 5) (.n 1)) (.v 4)) .nil)))) [5]
abbrev cxH : RF.X := .comp (.v 4) (.nm 4) (.seq (.v 2)) (.some (.cmp .eq cxH1 (.lst .nil))) [4]
theorem luppers_eq (k : Nat) (hP : P.length < 900) : g (k + 1) f__law_uppers [zi n, .z (pD P)] = ret (.l ((lawU n P).map fun l => .z (nD l))) := by
  rw [at__law_uppers, run_eq (h := rfl)]
  let e : RF.Env := [some (zi n), some (.z (pD P)), none, none, none, none]
  let en (w a l p : Option O) : RF.Env := [some (zi n), some (.z (pD P)), w, a, l, p]
  have s1 : evalS (cc k) Wf (.set 2 (.lst (.cons (.lst .nil) .nil))) e = .nx (en (some (.l [.l []])) none none none) := set_ok (lst1_ok ev_nil)
  have sl : ∀ t, t ≤ n → (subs t).length ≤ 4096 := fun t ht => by
    rw [subs_len]
    exact Nat.le_trans (Nat.pow_le_pow_right (show 0 < 2 by decide) (show t ≤ 12 by omega)) (by decide)
  have sb : ∀ t, t ≤ n → ∀ l ∈ subs t, l.length < 1000 := fun t ht l hl => by
    obtain ⟨h1, h2⟩ := mem_subs.mp hl
    have := nd_le (ys := List.range t) (h1.imp fun z => by omega) fun x hx => List.mem_range.mpr (h2 x hx)
    rw [List.length_range] at this
    omega
  obtain ⟨e', h1, os, a, ho, h2⟩ := ev_for (t := .nm 3) (body := fun e => evalSs (cc k) Wf (.cons (.set 2 (.bin .add (.v 2) cxG)) .nil) e) (q := fun (j : Nat) => D.int j)
    (fun t e => ∃ os a, O.toDs os = (subs t).map nD ∧ e = en (some (.l os)) a none none) (xs := List.range n) (k := 0) (e := en (some (.l [.l []])) none none none) ⟨[.l []], none, rfl, rfl⟩ (fun t x e hj ⟨os, a, ho, he⟩ => by
      obtain ⟨h, rfl⟩ := List.getElem?_eq_some_iff.mp hj
      simp only [List.length_range] at h
      simp only [List.getElem_range, Nat.zero_add] at he ho ⊢
      subst he
      have q := grow2 (C := cc k) (Wx := Wf) (i := 2) (x := cxG) (e := en (some (.l os)) (some (zi t)) none none) (os := os) (ds := (subs t).map nD) (fs := ((subs t).map fun l => l ++ [t]).map nD) (o := .l ((subs t).map fun l => on (l ++ [t]))) rfl rfl ho (fun v hv => by
        refine ev_compA (env1 := en (some (frz v)) (some (zi t)) none none) (subs t) nD (fun l => on (l ++ [t])) (it_seq (ev_vz (i := 2) (o := v) rfl) hv) (fun l hl => ⟨en (some (frz v)) (some (zi t)) (some (.z (nD l))) none, rfl, ?_, rfl⟩) (by have := sl t (by omega); omega) rfl (fun _ _ => clean_on _)
        have := sb t (by omega) l hl
        rw [← on_cat]
        exact cat_ok (ev_v rfl) (lst1_ok (ev_v rfl)) rfl rfl (by rw [List.length_map]; omega) (by simp)) (by
        simp only [O.toD]
        rw [O.toDs_map, List.map_map, List.map_map]
        congr 1
        exact List.map_congr_left fun l _ => toD_on _) (by rw [List.length_map]; have := sl t (by omega); omega) (by rw [List.length_map, List.length_map]; have := sl t (by omega); omega)
      refine ⟨en (some (.l os)) (some (zi t)) none none, _, rfl, by rw [nxt q]; exact nx0, (((subs t).map nD ++ ((subs t).map fun l => l ++ [t]).map nD).map .z), _, ?_, rfl⟩
      rw [toDs_z, subs, List.map_append])
  rw [Nat.zero_add, List.length_range] at ho
  subst h2
  have td : (O.l os).toD = .lst ((subs n).map nD) := by simp only [O.toD, ho]
  obtain ⟨e2, c⟩ := compX (C := cc k) (elt := .v 4) (t := .nm 4) (it := .seq (.v 2)) (cd := .some (.cmp .eq cxH1 (.lst .nil))) (own := [4]) (env := en (some (.l os)) a none none) (env1 := en (some (frz (.l os))) a none none) (subs n) nD (fun l => clP P l) (fun l => .z (nD l)) (it_seq (ev_vz (i := 2) (o := .l os) rfl) td) (fun l hl => ⟨en (some (frz (.l os))) a (some (.z (nD l))) none, rfl, by
      rw [evalCond]
      have q := ev_comp (C := cc k) (elt := .v 5) (t := .nm 5) (it := .seq (.v 1)) (cd := .some (.and (.cons (.cmp .mem (.ix (.v 5) (.n 0)) (.v 4)) (.cons (.cmp .nmem (.ix (.v 5) (.n 1)) (.v 4)) .nil)))) (own := [5]) (env := en (some (frz (.l os))) a (some (.z (nD l))) none) (env1 := en (some (frz (.l os))) a (some (.z (nD l))) none) P (fun p => tp p.1 p.2) (fun p => decide (p.1 ∈ l) && !decide (p.2 ∈ l)) (fun p => .z (tp p.1 p.2))
        (it_seq (ev_v rfl) rfl) (fun p hp => ⟨en (some (frz (.l os))) a (some (.z (nD l))) (some (.z (tp p.1 p.2))), rfl, by
          rw [evalCond]
          exact and2_ok (SeeN.mem (SeeN.z rfl) (ix_tup (j := 0) rfl ev_n rfl)) (SeeN.nmem (SeeN.z rfl) (ix_tup (j := 1) rfl ev_n rfl)), fun _ => ev_v rfl, rfl⟩) (by omega) rfl (fun _ _ _ => rfl)
      have z := eq_ok' (by intro i z; cases z) q pt_ok
      rw [List.isEmpty_map] at z
      exact z, fun _ => ev_v rfl, rfl⟩) (by have := sl n (Nat.le_refl n); omega)
  show RF.finish [false, false] (evalSs (cc k) Wf (.cons _ (.cons (.for (.nm 3) (.rng1 (.v 0)) (.cons (.set 2 (.bin .add (.v 2) cxG)) .nil)) (.cons (.ret cxH) .nil))) e) = _
  rw [nxt s1, nxt (for_ok (it_rngN (by omega) (ev_v rfl)) h1), nxr (ret_ok (by intro i z; cases z) c)]
  rfl
end
theorem lawU_ne {n : Nat} {P : Ps} : (lawU n P).map ipl ≠ [] := by
  intro z
  rw [List.map_eq_nil_iff] at z
  have : ([] : List Nat) ∈ lawU n P := List.mem_filter.mpr ⟨mem_subs.mpr ⟨List.Pairwise.nil, fun _ z => nomatch z⟩, clP_iff.mpr fun _ _ z => nomatch z⟩
  rw [z] at this
  cases this
end K03
/-! K03f: the told ones: with checks; lots, closed up; who stands before whom. -/
namespace K03
open RF MX
/-! ### what is a lot -/
abbrev cxL0 : RF.X := .comp (.v 2) (.nm 2) (.seq (.v 1)) (.some (.not (.call true f_is_below (.cons (.v 2) (.cons (.v 0) .nil))))) [2]
abbrev cnL0 : RF.X := .or (.cons (.not (.isi .list (.v 1))) (.cons (.cmp .ne cxL0 (.lst .nil)) .nil))
abbrev enL0 (n : Int) (d : D) (x : Option O) : RF.Env := [some (zi n), some (.z d), x, none]
theorem cnL0_eq (k : Nat) (n : Int) {ds : List D} (h : Gd 3 (.lst ds)) : ∃ e', evalE (cc (k + 3)) cnL0 (enL0 n (.lst ds) none) = .ok (zb (!(ds.filter fun d => !belowB n d).isEmpty)) e' ∧ (ds.filter (fun d => !belowB n d) = [] → e' = enL0 n (.lst ds) none) := by
  simp only [Gd] at h
  have cd : ∀ d ∈ ds, ∃ e1, tgE (.nm 2) (.z d) (wipeE (enL0 n (.lst ds) none) [2]) = some e1 ∧ evalCond (cc (k + 3)) (.some (.not (.call true f_is_below (.cons (.v 2) (.cons (.v 0) .nil))))) e1 = .ok (zb (!belowB n d)) e1 ∧ ((!belowB n d) = true → evalE (cc (k + 3)) (.v 2) e1 = .ok (.z d) e1) ∧ wipeE e1 [2] = wipeE (enL0 n (.lst ds) none) [2] := fun d hd =>
    ⟨enL0 n (.lst ds) (some (.z d)), rfl, by rw [evalCond]; exact not_ok (rt2 (below_gen k 2 n (h.2 d hd)) (sg_is_below _) rfl rfl rfl), fun _ => ev_v rfl, rfl⟩
  have q := ev_compR (C := cc (k + 3)) (elt := .v 2) (t := .nm 2) (it := .seq (.v 1)) (cd := .some (.not (.call true f_is_below (.cons (.v 2) (.cons (.v 0) .nil))))) (own := [2]) (env := enL0 n (.lst ds) none) (env1 := enL0 n (.lst ds) none) ds (fun d => d) (fun d => !belowB n d) (fun d => .z d)
    (it_seq (ev_v rfl) (by rw [List.map_id']; rfl)) cd (by omega) rfl
  have z := ne_nil_ok (by intro i z; cases z) q (fun d hd => ((h.2 d (List.mem_filter.mp hd).1).mono (by decide)).ok)
  exact ⟨_, or2_ok (x := false) (not_ok (b := true) (isi_ok (ev_v rfl) rfl)) z, fun _ => rfl⟩
theorem lot_no (k : Nat) (n : Int) {d : D} (h : Gd 3 d) (hb : ∀ ds, d = .lst ds → ∃ x ∈ ds, belowB n x = false) : g (k + 4) f_is_lot_of [zi n, .z d] = ret (zb false) := by
  have no : (∃ e', evalE (cc (k + 3)) cnL0 (enL0 n d none) = .ok (zb true) e') → g (k + 4) f_is_lot_of [zi n, .z d] = ret (zb false) := fun ⟨e', c⟩ => by
    rw [at_is_lot_of, run_eq (h := rfl)]
    show RF.finish [false, false] (evalSs (cc (k + 3)) Wf (.cons (.ite cnL0 (.cons (.ret (.tt false)) .nil) .nil) _) (enL0 n d none)) = _
    rw [nxr (ite_tr c (by intro i z; cases z) ev_tt)]; rfl
  rcases gd_cases h with rfl | ⟨b, rfl⟩ | ⟨i, rfl⟩ | ⟨x, rfl⟩ | ⟨ds, rfl⟩ | ⟨ds, rfl⟩
  · exact no ⟨_, or_tx (not_ok (b := false) (isi_ok (ev_v rfl) rfl))⟩
  · exact no ⟨_, or_tx (not_ok (b := false) (isi_ok (ev_v rfl) rfl))⟩
  · exact no ⟨_, or_tx (not_ok (b := false) (isi_ok (ev_v rfl) rfl))⟩
  · exact no ⟨_, or_tx (not_ok (b := false) (isi_ok (ev_v rfl) rfl))⟩
  · refine no ?_
    obtain ⟨e', q, _⟩ := cnL0_eq k n h
    obtain ⟨x, hx, hp⟩ := hb ds rfl
    rw [ne_ex.mpr ⟨x, hx, by rw [hp]; rfl⟩] at q
    exact ⟨e', q⟩
  · exact no ⟨_, or_tx (not_ok (b := false) (isi_ok (ev_v rfl) rfl))⟩
def ascL (l : List Nat) : Bool := ((List.range (l.length - 1)).filter fun j => decide (l.getD (j + 1) 0 ≤ l.getD j 0)).isEmpty
theorem gd_nD {l : List Nat} (h : l.length < 1000) : Gd 1 (nD l) := by
  simp only [Gd]
  refine ⟨by rw [List.length_map]; exact h, fun d hd => ?_⟩
  obtain ⟨i, _, rfl⟩ := List.mem_map.mp hd
  trivial
theorem getD_at {l : List Nat} {j : Nat} (h : j < l.length) : l.getD j 0 = l[j] := by simp [List.getD, h]
theorem lot_gen (k n : Nat) {l : List Nat} (hl : l.length < 1000) (hlt : ∀ i ∈ l, i < n) : g (k + 4) f_is_lot_of [zi n, .z (nD l)] = ret (zb (ascL l)) := by
  obtain ⟨e', c1, ee⟩ := cnL0_eq k n (ds := l.map fun (i : Nat) => D.int i) ((gd_nD hl).mono (by decide))
  have fl : (l.map fun (i : Nat) => D.int i).filter (fun d => !belowB n d) = [] := by
    rw [List.filter_eq_nil_iff]
    intro d hd
    obtain ⟨i, hi, rfl⟩ := List.mem_map.mp hd
    have := hlt i hi
    simp [belowB]
    omega
  obtain rfl := ee fl
  rw [fl] at c1
  have c2 : evalE (cc (k + 3)) (.comp (.v 3) (.nm 3) (.rng2 (.n 1) (.blt .len (.cons (.v 1) .nil))) (.some (.cmp .ge (.ix (.v 1) (.bin .sub (.v 3) (.n 1))) (.ix (.v 1) (.v 3)))) [3]) (enL0 n (nD l) none) = .ok (.l (((List.range (l.length - 1)).filter fun j => decide (l.getD (j + 1) 0 ≤ l.getD j 0)).map fun (j : Nat) => zi ((1 + j : Nat) : Int))) (enL0 n (nD l) none) := by
    refine ev_comp (List.range (l.length - 1)) (fun (j : Nat) => D.int (1 + j : Nat)) _ _ (it_rng2 (m := 1) (n := l.length) (by decide) (by omega) ev_n (SeeN.len (i := 1) (xs := l) (SeeN.z rfl))) (fun j hj => ⟨[some (zi n), some (.z (nD l)), none, some (zi ((1 + j : Nat) : Int))], rfl, ?_, fun _ => ev_v rfl, rfl⟩) (by rw [List.length_range]; omega) rfl (fun _ _ _ => rfl)
    have hj := List.mem_range.mp hj
    have a : evalE (cc (k + 3)) (.bin .sub (.v 3) (.n 1)) [some (zi n), some (.z (nD l)), none, some (zi ((1 + j : Nat) : Int))] = .ok (zi (j : Int)) [some (zi n), some (.z (nD l)), none, some (zi ((1 + j : Nat) : Int))] := by
      rw [sub_ok (ev_v rfl) ev_n]
      congr 3
      omega
    rw [evalCond]
    have c := ge_ok (SeeN.ix (i := 1) (xs := l) (SeeN.z rfl) rfl a (by omega)) (SeeN.ix (i := 1) (xs := l) (j := 1 + j) (SeeN.z rfl) rfl (ev_v (i := 3) rfl) (by omega))
    rw [← getD_at, ← getD_at] at c
    rw [show decide (l.getD (j + 1) 0 ≤ l.getD j 0) = decide (((l.getD (1 + j) 0 : Nat) : Int) ≤ ((l.getD j 0 : Nat) : Int)) from by rw [Nat.add_comm 1 j]; simp]
    exact c
  have z := eq_ok' (by intro i z; cases z) c2 (fun o ho => by
    obtain ⟨j, _, rfl⟩ := List.mem_map.mp ho
    rfl)
  rw [List.isEmpty_map] at z
  rw [at_is_lot_of, run_eq (h := rfl)]
  show RF.finish [false, false] (evalSs (cc (k + 3)) Wf (.cons (.ite cnL0 (.cons (.ret (.tt false)) .nil) .nil) (.cons (.ret (.cmp .eq _ (.lst .nil))) .nil)) (enL0 n (nD l) none)) = _
  rw [nxt (ite_ff c1), nxr (ret_ok (by intro i z; cases z) z)]
  rfl
theorem asc_ok {l : List Nat} (h : l.Pairwise fun a b => a < b) : ascL l = true := by
  unfold ascL
  rw [List.isEmpty_iff, List.filter_eq_nil_iff]
  intro j hj
  have hj := List.mem_range.mp hj
  have := List.pairwise_iff_getElem.mp h j (j + 1) (by omega) (by omega) (by omega)
  rw [getD_at (by omega), getD_at (by omega)]
  simp
  omega
/-! ### told, behind the checks -/
section
variable {n : Nat} {P : Ps} (o : Ord n P) (h1 : 1 ≤ n) (h2 : n ≤ 12) (hP : P.length < 900) (k : Nat)
include o h1 h2 hP
theorem case_ok : g (k + 7) f_check_case [zi n, .z (pD P)] = ret (.z .non) := by
  rw [chk_case k n h1 h2 (o.order k (by omega) hP)]; rfl
theorem t_all : g (k + 8) f_all_pairs [zi n, .z (pD P)] = ret (ptO (aP n P n)) := by
  have p := pairs_eq n P (by omega) (k + 5)
  have cl := clean_pt (aP n P n)
  generalize ptO (aP n P n) = v at p cl ⊢
  rw [at_all_pairs, run_eq (h := rfl)]
  show RF.finish [false, false] (evalSs (cc (k + 7)) Wf (.cons (.expr _) (.cons (.ret _) .nil)) [some (zi n), some (.z (pD P))]) = _
  rw [nxt (expr_ok (rt2 (case_ok o h1 h2 hP k) (sg_check_case _) rfl rfl rfl)), nxr (ret_ok (by intro i z; cases z) (rt2 p (sg_all_pairs_of _) rfl rfl cl))]
  rfl
theorem t_plain : g (k + 8) f_plain_pairs [zi n, .z (pD P)] = ret (ptO (plP n P)) := by
  have p := plain_eq n P (by omega) (k + 4)
  have cl := clean_pt (plP n P)
  generalize ptO (plP n P) = v at p cl ⊢
  rw [at_plain_pairs, run_eq (h := rfl)]
  show RF.finish [false, false] (evalSs (cc (k + 7)) Wf (.cons (.expr _) (.cons (.ret _) .nil)) [some (zi n), some (.z (pD P))]) = _
  rw [nxt (expr_ok (rt2 (case_ok o h1 h2 hP k) (sg_check_case _) rfl rfl rfl)), nxr (ret_ok (by intro i z; cases z) (rt2 p (sg_plain_pairs_of _) rfl rfl cl))]
  rfl
theorem t_upper : g (k + 8) f_upper_lots [zi n, .z (pD P)] = ret (srtO ((lawU n P).map ipl)) := by
  have p := uppers_eq n P h2 (k + 4) o
  generalize srtO ((lawU n P).map ipl) = v at p ⊢
  rw [at_upper_lots, run_eq (h := rfl)]
  show RF.finish [false, false] (evalSs (cc (k + 7)) Wf (.cons (.expr _) (.cons (.ret _) .nil)) [some (zi n), some (.z (pD P))]) = _
  rw [nxt (expr_ok (rt2 (case_ok o h1 h2 hP k) (sg_check_case _) rfl rfl rfl)), nxr (ret_ok (by intro i z; cases z) (rtv [.int n, pD P] (sg_upper_lots_of _) (args2 rfl rfl) p))]
  rfl
theorem t_row : g (k + 8) f_in_a_row [zi n, .z (pD P)] = ret (on (runL n P n)) := by
  have p := row_eq n P (by omega) (k + 5) o
  have cl := clean_on (runL n P n)
  generalize on (runL n P n) = v at p cl ⊢
  rw [at_in_a_row, run_eq (h := rfl)]
  show RF.finish [false, false] (evalSs (cc (k + 7)) Wf (.cons (.expr _) (.cons (.ret _) .nil)) [some (zi n), some (.z (pD P))]) = _
  rw [nxt (expr_ok (rt2 (case_ok o h1 h2 hP k) (sg_check_case _) rfl rfl rfl)), nxr (ret_ok (by intro i z; cases z) (rt2 p (sg_running_order _) rfl rfl cl))]
  rfl
end
theorem chk_thing (k n : Nat) {d : D} (h : Gd 3 d) : g (k + 4) f_check_thing [zi n, .z d] = if belowB n d then ret (.z .non) else .ex 1 [d] := by
  have b := below_gen k 3 n h
  have c := not_ok (rt2 (e := [some (zi n), some (.z d)]) (i := 1) (j := 0) b (sg_is_below _) rfl rfl rfl)
  rw [at_check_thing, run_eq (h := rfl)]
  show RF.finish [false, false] (evalSs (cc (k + 3)) Wf (.cons (.ite (.not (.call true f_is_below (.cons (.v 1) (.cons (.v 0) .nil)))) (.cons (.raise 1 (.v 1)) .nil) .nil) .nil) [some (zi n), some (.z d)]) = _
  cases q : belowB n d with
  | true => rw [q] at c; rw [nxt (ite_ff c), nx0]; rfl
  | false =>
    rw [q] at c
    rw [evalSs, st_ite c]
    rfl
theorem below_nat {a n : Nat} (h : a < n) : belowB n (.int a) = true := by simp [belowB]; omega
section
variable {n : Nat} {P : Ps} (o : Ord n P) (h1 : 1 ≤ n) (h2 : n ≤ 12) (hP : P.length < 900) (k : Nat)
include o h1 h2 hP
abbrev enS (n : Nat) (P : Ps) (a b : D) : RF.Env := [some (zi n), some (.z (pD P)), some (.z a), some (.z b)]
theorem t_stands {a b : Nat} (ha : a < n) (hb : b < n) : g (k + 8) f_stands_before [zi n, .z (pD P), zi a, zi b] = ret (zb (B n P a b)) := by
  have ca := chk_thing (k + 3) n (d := .int a) trivial
  have cb := chk_thing (k + 3) n (d := .int b) trivial
  rw [below_nat ha, if_pos rfl] at ca
  rw [below_nat hb, if_pos rfl] at cb
  have r : evalE (cc (k + 7)) (.call true f_reach_of (.cons (.v 0) (.cons (.v 1) .nil))) (enS n P (.int a) (.int b)) = .ok (mat n (B n P)) (enS n P (.int a) (.int b)) := rt2 (reach_eq n P (by omega) (k + 6)) (sg_reach_of _) rfl rfl (clean_mat n _)
  have r1 : evalE (cc (k + 7)) (.ix (.call true f_reach_of (.cons (.v 0) (.cons (.v 1) .nil))) (.v 2)) (enS n P (.int a) (.int b)) = .ok (.z (.lst ((List.range n).map fun c => D.bl (B n P a c)))) (enS n P (.int a) (.int b)) := by
    rw [evalE, vw r, toD_mat]
    simp only [RF.R.bind_ok]
    rw [ev_v (i := 2) (d := .int a) rfl]
    simp only [RF.R.bind_ok, atI_map (fun r => D.lst ((List.range n).map fun c => D.bl (B n P r c))) ha]
    rfl
  have r2 : evalE (cc (k + 7)) (.ix (.ix (.call true f_reach_of (.cons (.v 0) (.cons (.v 1) .nil))) (.v 2)) (.v 3)) (enS n P (.int a) (.int b)) = .ok (zb (B n P a b)) (enS n P (.int a) (.int b)) := by
    rw [evalE, vw r1]
    simp only [RF.R.bind_ok, O.toD]
    rw [ev_v (i := 3) (d := .int b) rfl]
    simp only [RF.R.bind_ok, atI_map (fun c => D.bl (B n P a c)) hb]
    rfl
  rw [at_stands_before, run_eq (h := rfl)]
  show RF.finish [false, false, false, false] (evalSs (cc (k + 7)) Wf (.cons (.expr _) (.cons (.expr _) (.cons (.expr _) (.cons (.ret _) .nil)))) (enS n P (.int a) (.int b))) = _
  rw [nxt (expr_ok (rt2 (case_ok o h1 h2 hP k) (sg_check_case _) rfl rfl rfl)), nxt (expr_ok (rt2 ca (sg_check_thing _) rfl rfl rfl)), nxt (expr_ok (rt2 cb (sg_check_thing _) rfl rfl rfl)), nxr (ret_ok (by intro i z; cases z) r2)]
  rfl
/-! ### closed up -/
def clsB (n : Nat) (P : Ps) (l : List Nat) (t : Nat) : Bool := decide (t ∈ l) || !(l.filter fun x => B n P x t).isEmpty
def clsL (n : Nat) (P : Ps) (l : List Nat) : List Nat := (List.range n).filter fun t => clsB n P l t
abbrev enK (n : Nat) (P : Ps) (l : List Nat) (m a b : Option O) : RF.Env := [some (zi n), some (.z (pD P)), some (.z (nD l)), m, a, b]
theorem t_closed {l : List Nat} (hup : l.Pairwise fun a b => a < b) (hlt : ∀ i ∈ l, i < n) : g (k + 8) f_closed_up [zi n, .z (pD P), .z (nD l)] = ret (on (clsL n P l)) := by
  have ll := nd_le (ys := List.range n) (hup.imp fun z => by omega) fun x hx => List.mem_range.mpr (hlt x hx)
  rw [List.length_range] at ll
  have lg := lot_gen (k + 3) n (l := l) (by omega) hlt
  rw [asc_ok hup] at lg
  have s3 : evalS (cc (k + 7)) Wf (.set 3 (.call true f_reach_of (.cons (.v 0) (.cons (.v 1) .nil)))) (enK n P l none none none) = .nx (enK n P l (some (mat n (B n P))) none none) := set_ok (rt2 (reach_eq n P (by omega) (k + 6)) (sg_reach_of _) rfl rfl (clean_mat n _))
  have q : evalE (cc (k + 7)) (.comp (.v 4) (.nm 4) (.rng1 (.v 0)) (.some (.or (.cons (.cmp .mem (.v 4) (.v 2)) (.cons (.cmp .ne (.comp (.v 5) (.nm 5) (.seq (.v 2)) (.some (.ix2 3 (.v 5) (.v 4))) [5]) (.lst .nil)) .nil)))) [4]) (enK n P l (some (mat n (B n P))) none none) = .ok (on (clsL n P l)) (enK n P l (some (mat n (B n P))) none none) :=
    ev_comp (List.range n) (fun (j : Nat) => D.int j) (fun t => clsB n P l t) (fun (j : Nat) => zi j) (it_rngN (by omega) (ev_v rfl)) (fun t ht => ⟨enK n P l (some (mat n (B n P))) (some (zi t)) none, rfl, by
      have ht := List.mem_range.mp ht
      rw [evalCond]
      have c : evalE (cc (k + 7)) (.comp (.v 5) (.nm 5) (.seq (.v 2)) (.some (.ix2 3 (.v 5) (.v 4))) [5]) (enK n P l (some (mat n (B n P))) (some (zi t)) none) = .ok (on (l.filter fun x => B n P x t)) (enK n P l (some (mat n (B n P))) (some (zi t)) none) :=
        ev_comp l (fun (j : Nat) => D.int j) (fun x => B n P x t) (fun (j : Nat) => zi j) (it_seq (ev_v rfl) rfl) (fun x hx => ⟨enK n P l (some (mat n (B n P))) (some (zi t)) (some (zi x)), rfl, by rw [evalCond]; exact ix2_ok (F := B n P) rfl (ev_v rfl) (ev_v rfl) (hlt x hx) ht, fun _ => ev_v rfl, rfl⟩) (by omega) rfl (fun _ _ _ => rfl)
      have z := ne_ok' (by intro i z; cases z) c on_ok
      rw [List.isEmpty_map] at z
      exact or2_ok (SeeN.mem (SeeN.z rfl) (ev_v rfl)) z, fun _ => ev_v rfl, rfl⟩) (by rw [List.length_range]; omega) rfl (fun _ _ _ => rfl)
  rw [at_closed_up, run_eq (h := rfl)]
  show RF.finish [false, false, false] (evalSs (cc (k + 7)) Wf (.cons (.expr _) (.cons (.ite (.not (.call true f_is_lot_of (.cons (.v 0) (.cons (.v 2) .nil)))) _ .nil) (.cons (.set 3 _) (.cons (.ret _) .nil)))) (enK n P l none none none)) = _
  rw [nxt (expr_ok (rt2 (case_ok o h1 h2 hP k) (sg_check_case _) rfl rfl rfl)), nxt (ite_ff (not_ok (b := true) (rt2 lg (sg_is_lot_of _) rfl rfl rfl))), nxt s3, nxr (ret_ok (by intro i z; cases z) q)]
  rfl
end
/-! ### the order of a row -/
abbrev rwO (n : Nat) : O := .l ((List.range (n - 1)).map fun (j : Nat) => .z (tp j (j + 1)))
theorem t_roworder (k n : Nat) (h1 : 1 ≤ n) (h2 : n ≤ 12) : g (k + 4) f_row_order [zi n] = ret (rwO n) := by
  have s := size_ok k n h1 h2
  have r : g (k + 3) f_row_order_of [zi n] = ret (rwO n) := by
    have m1 : evalE (cc (k + 2)) (.bin .sub (.v 0) (.n 1)) [some (zi n), none] = .ok (zi ((n - 1 : Nat) : Int)) [some (zi n), none] := by
      rw [sub_ok (ev_v rfl) ev_n]
      congr 3
      omega
    have q : evalE (cc (k + 2)) (.comp (.tup (.cons (.v 1) (.cons (.bin .add (.v 1) (.n 1)) .nil))) (.nm 1) (.rng1 (.bin .sub (.v 0) (.n 1))) .none [1]) [some (zi n), none] = .ok (rwO n) [some (zi n), none] :=
      ev_compA (List.range (n - 1)) (fun (j : Nat) => D.int j) (fun (j : Nat) => .z (tp j (j + 1))) (it_rngN (by omega) m1) (fun j hj => ⟨[some (zi n), some (zi j)], rfl, tup2_ok (ev_v rfl) (add_ok (x := (j : Int)) (y := 1) (ev_v rfl) ev_n), rfl⟩) (by rw [List.length_range]; omega) rfl (fun _ _ => rfl)
    rw [at_row_order_of, run_eq (h := rfl)]
    show RF.finish [false] (evalSs (cc (k + 2)) Wf (.cons (.ret _) .nil) [some (zi n), none]) = _
    rw [nxr (ret_ok (by intro i z; cases z) q)]
    rfl
  have cl : (rwO n).clean = true := by
    simp only [O.clean]
    rw [O.cleans_all, List.all_eq_true]
    intro o ho
    obtain ⟨j, _, rfl⟩ := List.mem_map.mp ho
    rfl
  rw [at_row_order, run_eq (h := rfl)]
  show RF.finish [false] (evalSs (cc (k + 3)) Wf (.cons (.expr _) (.cons (.ret _) .nil)) [some (zi n)]) = _
  rw [nxt (expr_ok (rt1 s (sg_check_size _) rfl rfl)), nxr (ret_ok (by intro i z; cases z) (rt1 r (sg_row_order_of _) rfl cl))]
  rfl
end K03
/-! K03g: drawn orders. -/
namespace K03
open RF MX
theorem Gn.mono {k k' : Nat} {o : O} (h : Gn k o) (l : k ≤ k') : Gn k' o := by
  obtain ⟨a, b, c, e, h1, h2, h3, h4⟩ := h.ex
  exact ⟨a, b, c, e, h1, h2, h3, by omega⟩
theorem Gn.isl {k : Nat} {o : O} (h : Gn k o) : ∃ os, o = .l os := by
  obtain ⟨a, b, c, e, _⟩ := h.ex
  exact ⟨_, e⟩
theorem popAt_ok {C : Cfg} {i j : Nat} {k : RF.X} {e e1 : RF.Env} {us os : List O} (h0 : getE e i = some (.l us)) (hk : evalE C k e = .ok (zi j) e1) (h1 : getE e1 i = some (.l os)) (hl : os.length < 2 ^ 20) (hj : j < os.length) : evalE C (.popAt i k) e = .ok (os[j]'hj) (e1.set i (some (.l (os.eraseIdx j)))) := by
  have q : L2.ixN os.length (j : Int) = some j := by
    unfold L2.ixN
    rw [if_pos (Int.natCast_nonneg j), if_pos (by omega)]
    simp
  rw [evalE, h0]
  simp only [hk, RF.R.bind_ok, h1, lenOk_of hl, if_true, q, List.getElem?_eq_getElem hj]
theorem app_gen {C : Cfg} {Wx i : Nat} {a : RF.X} {e e1 : RF.Env} {o : O} {us os : List O} (h0 : getE e i = some (.l us)) (h : evalE C a e = .ok o e1) (h1 : getE e1 i = some (.l os)) (hl : os.length < 2 ^ 20) : evalS C Wx (.app i a) e = .nx (e1.set i (some (.l (os ++ [o])))) := by
  rw [evalS, h0]
  simp only [h, Out.ofR_ok, h1, lenOk_of hl, if_true]
theorem erase_map {α β : Type} (f : α → β) : ∀ (xs : List α) (i : Nat), (xs.map f).eraseIdx i = (xs.eraseIdx i).map f
  | [], _ => rfl
  | x :: xs, 0 => rfl
  | x :: xs, i + 1 => by simp [erase_map f xs i]
theorem erase_perm {α : Type} : ∀ (xs : List α) (i : Nat) (h : i < xs.length), (xs[i] :: xs.eraseIdx i).Perm xs
  | x :: xs, 0, _ => .refl _
  | x :: xs, i + 1, h => by
    have := erase_perm xs i (by simpa using h)
    simp only [List.getElem_cons_succ, List.eraseIdx_cons_succ]
    exact (List.Perm.swap x _ _).trans (this.cons x)
theorem sm_nat {x : Nat} (h : x < 1000) : Sm 200 (x : Int) := (show Sm 10 (x : Int) by unfold Sm; omega).mono (by decide)
abbrev tsD : RF.X := .cmp .ne (.v 2) (.lst .nil)
abbrev exD : RF.X := .popAt 2 (.call false f__law_random (.cons (.v 0) (.cons (.blt .len (.cons (.v 2) .nil)) .nil)))
abbrev enD (o : O) (t : D) (L F : List Nat) : RF.Env := [some o, some (.z t), some (on L), some (on F)]
theorem tsD_eq (m : Nat) (o : O) (t : D) (L F : List Nat) : evalE (cc m) tsD (enD o t L F) = .ok (zb (!L.isEmpty)) (enD o t L F) := by
  rw [evalE]
  have v : viewE (pureX (.lst .nil)) (.v 2) (evalE (cc m) (.v 2) (enD o t L F)) (enD o t L F) = .ok (nD L) (enD o t L F) := (SeeN.l (xs := L) rfl).view
  rw [v]
  simp only [RF.R.bind_ok]
  rw [vw ev_nil]
  simp only [RF.R.bind_ok, O.toD, O.toDs]
  rw [ne_nil (fun d hd => by
    obtain ⟨i, _, rfl⟩ := List.mem_map.mp hd
    rfl), List.isEmpty_map]
  rfl
theorem drawW (n : Nat) (t : D) : ∀ (m k : Nat) (o : O) (L F : List Nat) (fu : Nat), L.length = m → Gn k o → F.length + m ≤ 100 → k + 10 * m < 800000 → m < fu →
    ∃ F' o', evalWhile (fun e => evalE (cc (n + 2)) tsD e) (fun e => evalSs (cc (n + 2)) Wf (.cons (.app 3 exD) .nil) e) fu (enD o t L F) = .nx (enD o' t [] F') ∧ F'.Perm (F ++ L) ∧ Gn (k + 10 * m) o'
  | 0, k, o, L, F, fu, hL, ho, _, _, hf => by
    obtain rfl := List.eq_nil_of_length_eq_zero hL
    obtain ⟨fu', rfl⟩ : ∃ q, fu = q + 1 := ⟨fu - 1, by omega⟩
    refine ⟨F, o, ?_, by rw [List.append_nil], ho⟩
    have := tsD_eq (n + 2) o t [] F
    rw [evalWhile, this]
    rfl
  | m + 1, k, o, L, F, fu, hL, ho, hF, hk, hf => by
    obtain ⟨fu', rfl⟩ : ∃ q, fu = q + 1 := ⟨fu - 1, by omega⟩
    have ts := tsD_eq (n + 2) o t L F
    have ne : (!L.isEmpty) = true := by
      cases L with
      | nil => simp at hL
      | cons x xs => rfl
    rw [ne] at ts
    obtain ⟨r, o1, h1, h2, h3, h4⟩ := rnd_in (n := n) (k := k) (i := 0) (E := .blt .len (.cons (.v 2) .nil)) (env := enD o t L F) (x := (L.length : Int)) rfl ho (by omega) (by omega) (sm_nat (by omega)) (SeeN.len (SeeN.l (xs := L) rfl))
    obtain ⟨j, rfl⟩ : ∃ j : Nat, r = j := ⟨r.toNat, by omega⟩
    have hj : j < L.length := by omega
    have p := popAt_ok (C := cc (n + 2)) (i := 2) (e := enD o t L F) (e1 := enD o1 t L F) (us := L.map fun (i : Nat) => zi i) (os := L.map fun (i : Nat) => zi i) rfl h1 rfl (by rw [List.length_map]; omega) (by rw [List.length_map]; exact hj)
    have p : evalE (cc (n + 2)) exD (enD o t L F) = .ok (zi (L[j]'hj : Nat)) (enD o1 t (L.eraseIdx j) F) := by
      rw [p, erase_map]
      rw [List.getElem_map]
      rfl
    have a := app_gen (C := cc (n + 2)) (Wx := Wf) (i := 3) (us := F.map fun (i : Nat) => zi i) (os := F.map fun (i : Nat) => zi i) rfl p rfl (by rw [List.length_map]; omega)
    have a : evalS (cc (n + 2)) Wf (.app 3 exD) (enD o t L F) = .nx (enD o1 t (L.eraseIdx j) (F ++ [L[j]'hj])) := by
      rw [a]
      exact congrArg (fun q => RF.Out.nx [some o1, some (.z t), some (on (L.eraseIdx j)), some q]) (on_snoc F (L[j]'hj)).symm
    obtain ⟨F', o', q1, q2, q3⟩ := drawW n t m (k + 10) o1 (L.eraseIdx j) (F ++ [L[j]'hj]) fu' (by rw [List.length_eraseIdx_of_lt hj]; omega) h4 (by simp; omega) (by omega) (by omega)
    refine ⟨F', o', ?_, ?_, by rw [show k + 10 * (m + 1) = k + 10 + 10 * m by omega]; exact q3⟩
    · rw [whl_go ts (show evalSs (cc (n + 2)) Wf (.cons (.app 3 exD) .nil) _ = _ from by rw [nxt a]; exact nx0)]
      exact q1
    · refine q2.trans ?_
      rw [List.append_assoc]
      exact (erase_perm L j hj).append_left F
theorem drawn_eq (n k : Nat) (o : O) (ho : Gn k o) (L : List Nat) (hL : L.length ≤ 100) (hk : k < 700000) : ∃ F o', g (n + 3) f__law_drawn_order [o, .z (nD L)] = .rt (on F) [o'] ∧ F.Perm L ∧ Gn (k + 10 * L.length) o' := by
  obtain ⟨F, o', h1, h2, h3⟩ := drawW n (nD L) L.length k o L [] Wf rfl ho (by simp; omega) (by omega) (by show L.length < 5000; omega)
  refine ⟨F, o', ?_, h2, h3⟩
  obtain ⟨os, rfl⟩ := h3.isl
  have s1 : evalS (cc (n + 2)) Wf (.par [2, 3] (.cons (.blt .list (.cons (.v 1) .nil)) (.cons (.lst .nil) .nil))) [some o, some (.z (nD L)), none, none] = .nx (enD o (nD L) L []) := by
    have l : evalE (cc (n + 2)) (.blt .list (.cons (.v 1) .nil)) [some o, some (.z (nD L)), none, none] = .ok (on L) [some o, some (.z (nD L)), none, none] := blv_ok (vs1 (ev_v rfl)) (by simp only [O.toD, bltV]; rw [List.map_map]; rfl)
    rw [evalS, es_e l (es_e ev_nil es_0)]
    rfl
  rw [at__law_drawn_order, run_eq (h := rfl)]
  show RF.finish [true, false] (evalSs (cc (n + 2)) Wf (.cons _ (.cons (.whl tsD (.cons (.app 3 exD) .nil)) (.cons (.ret (.v 3)) .nil))) [some o, some (.z (nD L)), none, none]) = _
  rw [nxt s1, nxt (show evalS (cc (n + 2)) Wf (.whl tsD (.cons (.app 3 exD) .nil)) (enD o (nD L) L []) = .nx (enD (.l os) (nD L) [] F) from by rw [evalS]; exact h1), nxr (retv rfl)]
  rfl
/-! ### the rank of a thing in a drawn row -/
def rank : List Nat → Nat → Nat
  | [], _ => 0
  | x :: xs, i => if x = i then 0 else rank xs i + 1
theorem rank_at : ∀ (T : List Nat) (a : Nat) (h : a < T.length), T.Nodup → rank T T[a] = a
  | x :: xs, 0, _, _ => by simp [rank]
  | x :: xs, a + 1, h, nd => by
    rw [List.nodup_cons] at nd
    have h' : a < xs.length := by simpa using h
    simp only [List.getElem_cons_succ, rank]
    rw [if_neg (fun e => nd.1 (by rw [e]; exact List.getElem_mem h')), rank_at xs a h' nd.2]
theorem rank_lt : ∀ (T : List Nat) (i : Nat), i ∈ T → rank T i < T.length
  | x :: xs, i, h => by
    simp only [rank, List.length_cons]
    split
    · omega
    · have := rank_lt xs i ((List.mem_cons.mp h).resolve_left fun e => by rename_i q; exact q e.symm)
      omega
/-! ### pairs, sorted -/
abbrev cP (p : Nat × Nat) : Int × Int := ((p.1 : Int), (p.2 : Int))
theorem pairs_n (Q : Ps) : pairs? (ptD Q) = some (Q.map cP) := by
  induction Q with
  | nil => rfl
  | cons q Q ih =>
    show (pairs? (ptD Q)).map _ = _
    rw [ih]
    rfl
theorem sortPN (Q : Ps) : ∃ S : Ps, S.Perm Q ∧ S.Pairwise (fun a b => a.1 < b.1 ∨ (a.1 = b.1 ∧ a.2 ≤ b.2)) ∧ bltV .sorted [.lst (ptD Q)] = some (ptO S) := by
  have p := RX.sortP_perm (Q.map cP)
  have s := RX.sortP_pw (Q.map cP)
  have ex : ∀ x ∈ RX.sortP (Q.map cP), ∃ q ∈ Q, x = cP q := fun x hx => by
    obtain ⟨q, hq, rfl⟩ := List.mem_map.mp (p.mem_iff.mp hx)
    exact ⟨q, hq, rfl⟩
  have back : (RX.sortP (Q.map cP)).map (fun x => cP (x.1.toNat, x.2.toNat)) = RX.sortP (Q.map cP) := by
    have : ∀ x ∈ RX.sortP (Q.map cP), cP (x.1.toNat, x.2.toNat) = x := fun x hx => by
      obtain ⟨q, _, rfl⟩ := ex x hx
      simp [cP]
    rw [List.map_congr_left this, List.map_id']
  refine ⟨(RX.sortP (Q.map cP)).map fun x => (x.1.toNat, x.2.toNat), ?_, ?_, ?_⟩
  · have := p.map fun x => (x.1.toNat, x.2.toNat)
    rw [List.map_map] at this
    have e : Q.map ((fun x => (x.1.toNat, x.2.toNat)) ∘ cP) = Q := by
      have : ∀ q ∈ Q, ((fun x => (x.1.toNat, x.2.toNat)) ∘ cP) q = q := fun q _ => by simp [cP]
      rw [List.map_congr_left this, List.map_id']
    rw [e] at this
    exact this
  · rw [List.pairwise_map]
    refine List.Pairwise.imp_of_mem (fun {a b} ha hb q => ?_) s
    obtain ⟨x, _, rfl⟩ := ex a ha
    obtain ⟨y, _, rfl⟩ := ex b hb
    have := RX.leP_iff.mp q
    simp [cP] at this ⊢
    omega
  · have e : ptD ((RX.sortP (Q.map cP)).map fun x => (x.1.toNat, x.2.toNat)) = (RX.sortP (Q.map cP)).map prD := by
      rw [ptD, List.map_map]
      conv => rhs; rw [← back]
      rw [List.map_map]
      rfl
    cases Q with
    | nil => rfl
    | cons q Q =>
      have e1 : ints? (ptD (q :: Q)) = none := rfl
      rw [show bltV .sorted [.lst (ptD (q :: Q))] = sortD (ptD (q :: Q)) from by unfold bltV; rfl]
      unfold sortD
      rw [e1]
      simp only
      rw [pairs_n]
      simp only
      rw [ptO, e]
/-- an order of things as they stand in a row -/
theorem ord_of {n : Nat} {T : List Nat} {Q : Ps} {S : Ps} (hT : T.Perm (List.range n)) (hQ : ∀ q ∈ Q, q.1 < q.2 ∧ q.2 < T.length) (nd : Q.Nodup) (p : S.Perm (Q.map fun q => (T.getD q.1 0, T.getD q.2 0))) (s : S.Pairwise fun a b => a.1 < b.1 ∨ (a.1 = b.1 ∧ a.2 ≤ b.2)) : Ord n S := by
  have Tl : T.length = n := by rw [hT.length_eq, List.length_range]
  have Tn : T.Nodup := hT.nodup_iff.mpr List.nodup_range
  have gt : ∀ a, (h : a < T.length) → T.getD a 0 = T[a] := fun a h => by simp [List.getD, h]
  have inv : ∀ a b, a < T.length → b < T.length → T.getD a 0 = T.getD b 0 → a = b := fun a b ha hb e => by
    rw [gt a ha, gt b hb] at e
    have := rank_at T a ha Tn
    rw [e, rank_at T b hb Tn] at this
    exact this.symm
  have Sm : ∀ p ∈ S, ∃ q ∈ Q, p = (T.getD q.1 0, T.getD q.2 0) := fun x hx => by
    obtain ⟨q, hq, rfl⟩ := List.mem_map.mp (p.mem_iff.mp hx)
    exact ⟨q, hq, rfl⟩
  have Sn : S.Nodup := p.nodup_iff.mpr (by
    unfold List.Nodup
    rw [List.pairwise_map]
    refine List.Pairwise.imp_of_mem (fun {a b} ha hb ne e => ne ?_) nd
    have qa := hQ a ha
    have qb := hQ b hb
    simp only [Prod.mk.injEq] at e
    exact Prod.ext (inv _ _ (by omega) (by omega) e.1) (inv _ _ (by omega) (by omega) e.2))
  refine ⟨fun x hx => ?_, ?_, rank T, fun x hx => ?_, fun i hi => ?_⟩
  · obtain ⟨q, hq, rfl⟩ := Sm x hx
    have := hQ q hq
    simp only
    rw [gt _ (by omega), gt _ (by omega)]
    exact ⟨List.mem_range.mp (hT.mem_iff.mp (List.getElem_mem _)), List.mem_range.mp (hT.mem_iff.mp (List.getElem_mem _))⟩
  · refine List.Pairwise.imp (fun {a b} h => ?_) (List.Pairwise.and s Sn)
    obtain ⟨h1, h2⟩ := h
    rcases h1 with h1 | h1
    · exact .inl h1
    · refine .inr ⟨h1.1, Nat.lt_of_le_of_ne h1.2 fun e => h2 (Prod.ext h1.1 e)⟩
  · obtain ⟨q, hq, rfl⟩ := Sm x hx
    have := hQ q hq
    simp only
    rw [gt _ (by omega), gt _ (by omega), rank_at _ _ _ Tn, rank_at _ _ _ Tn]
    exact this.1
  · have := rank_lt T i (hT.mem_iff.mpr (List.mem_range.mpr hi))
    omega
end K03
/-! K03i: a drawn order of things. -/
namespace K03
open RF MX
theorem cmp_okl {C : Cfg} {p : Cop} {a b : RF.X} {e e1 : RF.Env} {x y : O} {r : Bool} (hv : ∀ i, a ≠ .v i) (ha : evalE C a e = .ok x e1) (hb : evalE C b e1 = .ok y e1) (h : cmpop p x.toD y.toD = some r) : evalE C (.cmp p a b) e = .ok (zb r) e1 := by
  rw [evalE, view_nv hv, ha]
  simp only [RF.R.bind_ok]
  rw [vw hb]
  simp only [RF.R.bind_ok, h, ofOpt_some, Option.map_some]
abbrev fT (T : List Nat) (q : Nat × Nat) : Nat × Nat := (T.getD q.1 0, T.getD q.2 0)
abbrev enO (n : Nat) (w : Int) (T : List Nat) (o : O) (Q : Ps) (a b : Option O) : RF.Env := [some o, some (zi n), some (zi w), some (on T), some (ptO (Q.map (fT T))), a, b]
abbrev rcall (j : Int) : RF.X := .call false f__law_random (.cons (.v 0) (.cons (.n j) .nil))
abbrev A0 : RF.X := .and (.cons (.cmp .eq (.v 2) (.n 0)) (.cons (.cmp .eq (.v 6) (.bin .add (.v 5) (.n 1))) .nil))
abbrev A1 : RF.X := .and (.cons (.cmp .eq (.v 2) (.n 1)) (.cons (.cmp .eq (.v 5) (.n 0)) .nil))
abbrev A2 : RF.X := .and (.cons (.cmp .eq (.v 2) (.n 2)) (.cons (.cmp .eq (rcall 2) (.n 0)) .nil))
abbrev A3 : RF.X := .and (.cons (.cmp .eq (.v 2) (.n 3)) (.cons (.cmp .eq (rcall 4) (.n 0)) .nil))
abbrev cA : RF.X := .or (.cons A0 (.cons A1 (.cons A2 (.cons A3 .nil))))
section
variable (m n : Nat) (w : Int) (T : List Nat) (Q : Ps) (a l : Nat)
abbrev eO (n : Nat) (w : Int) (T : List Nat) (Q : Ps) (a l : Nat) (o : O) : RF.Env := enO n w T o Q (some (zi a)) (some (zi l))
theorem a0_eq (o : O) : ∃ b, evalE (cc m) A0 (eO n w T Q a l o) = .ok (zb b) (eO n w T Q a l o) := ⟨_, and2_ok (eq_ok (ev_v rfl) ev_n) (eq_ok (ev_v rfl) (add_ok (ev_v rfl) ev_n))⟩
theorem a1_eq (o : O) : ∃ b, evalE (cc m) A1 (eO n w T Q a l o) = .ok (zb b) (eO n w T Q a l o) := ⟨_, and2_ok (eq_ok (ev_v rfl) ev_n) (eq_ok (ev_v rfl) ev_n)⟩
theorem ad_eq (c j : Int) (h0 : 0 < j) (hj : j ≤ 4) {k : Nat} {o : O} (ho : Gn k o) (hk : k < 800000) : ∃ b o', evalE (cc (m + 2)) (.and (.cons (.cmp .eq (.v 2) (.n c)) (.cons (.cmp .eq (rcall j) (.n 0)) .nil))) (eO n w T Q a l o) = .ok (zb b) (eO n w T Q a l o') ∧ Gn (k + 10) o' := by
  have c1 : evalE (cc (m + 2)) (.cmp .eq (.v 2) (.n c)) (eO n w T Q a l o) = .ok (zb (decide (w = c))) (eO n w T Q a l o) := eq_ok (ev_v rfl) ev_n
  cases q : decide (w = c) with
  | false =>
    rw [q] at c1
    exact ⟨false, o, and_fx c1, ho.mono (by omega)⟩
  | true =>
    rw [q] at c1
    obtain ⟨r, o1, h1, h2, h3, h4⟩ := rnd_in (n := m) (k := k) (i := 0) (E := .n j) (env := eO n w T Q a l o) (x := j) rfl ho (by omega) h0 ((show Sm 10 j by unfold Sm; omega).mono (by decide)) ev_n
    have c2 : evalE (cc (m + 2)) (.cmp .eq (rcall j) (.n 0)) (eO n w T Q a l o) = .ok (zb (decide (r = 0))) (eO n w T Q a l o1) := cmp_okl (by intro i z; cases z) h1 ev_n (eq_int r 0)
    refine ⟨decide (r = 0), o1, ?_, h4⟩
    rw [evalE, and_t c1, and_1, c2]
theorem cA_eq {k : Nat} {o : O} (ho : Gn k o) (hk : k < 700000) : ∃ b o', evalE (cc (m + 2)) cA (eO n w T Q a l o) = .ok (zb b) (eO n w T Q a l o') ∧ Gn (k + 20) o' := by
  obtain ⟨b0, h0⟩ := a0_eq (m + 2) n w T Q a l o
  cases b0 with
  | true => exact ⟨true, o, or_tx h0, ho.mono (by omega)⟩
  | false =>
  obtain ⟨b1, h1⟩ := a1_eq (m + 2) n w T Q a l o
  cases b1 with
  | true => exact ⟨true, o, by rw [evalE, or_f h0, or_t h1], ho.mono (by omega)⟩
  | false =>
  obtain ⟨b2, o2, h2, g2⟩ := ad_eq m n w T Q a l 2 2 (by decide) (by decide) ho (by omega)
  cases b2 with
  | true => exact ⟨true, o2, by rw [evalE, or_f h0, or_f h1, or_t h2], g2.mono (by omega)⟩
  | false =>
  obtain ⟨b3, o3, h3, g3⟩ := ad_eq m n w T Q a l 3 4 (by decide) (by decide) g2 (by omega)
  exact ⟨b3, o3, by rw [evalE, or_f h0, or_f h1, or_f h2, or_1, h3], g3⟩
abbrev stO : RF.S := .ite cA (.cons (.app 4 (.tup (.cons (.ix (.v 3) (.v 5)) (.cons (.ix (.v 3) (.v 6)) .nil)))) .nil) .nil
theorem stO_eq (Wx : Nat) (ha : a < T.length) (hl : l < T.length) (hQ : Q.length < 1000) {k : Nat} {o : O} (ho : Gn k o) (hk : k < 700000) : ∃ (b : Bool) (o' : O), evalS (cc (m + 2)) Wf stO (eO n w T Q a l o) = .nx (eO n w T (Q ++ if b then [(a, l)] else []) a l o') ∧ Gn (k + 20) o' := by
  obtain ⟨b, o', h, g'⟩ := cA_eq m n w T Q a l ho hk
  refine ⟨b, o', ?_, g'⟩
  cases b with
  | false =>
    rw [ite_ff h]
    simp
  | true =>
    have gt : ∀ x, (hx : x < T.length) → T.getD x 0 = T[x] := fun x hx => by simp [List.getD, hx]
    have t : evalE (cc (m + 2)) (.tup (.cons (.ix (.v 3) (.v 5)) (.cons (.ix (.v 3) (.v 6)) .nil))) (eO n w T Q a l o') = .ok (.z (tp (T.getD a 0) (T.getD l 0))) (eO n w T Q a l o') := by
      rw [gt a ha, gt l hl]
      exact tup2_ok (SeeN.ix (SeeN.l rfl) rfl (ev_v rfl) ha) (SeeN.ix (SeeN.l rfl) rfl (ev_v rfl) hl)
    have s := app_ok (C := cc (m + 2)) (W := Wf) (i := 4) (os := (ptD (Q.map (fT T))).map .z) rfl t (by rw [List.length_map, List.length_map, List.length_map]; omega)
    rw [st_ite h, if_pos rfl, nxt s, nx0]
    have e : ptO ((Q ++ [(a, l)]).map (fT T)) = .l ((ptD (Q.map (fT T))).map .z ++ [.z (tp (T.getD a 0) (T.getD l 0))]) := by
      rw [ptO, ptD, List.map_append, List.map_append, List.map_append]
      rfl
    exact congrArg (fun q => RF.Out.nx [some o', some (zi n), some (zi w), some (on T), some q, some (zi a), some (zi l)]) e.symm
end
structure QOk (n A L : Nat) (Q : Ps) : Prop where
  nd : Q.Nodup
  lt : ∀ q ∈ Q, q.1 < q.2 ∧ q.2 < n ∧ (q.1 < A ∨ (q.1 = A ∧ q.2 < L))
theorem QOk.add {n A L : Nat} {Q : Ps} (h : QOk n A L Q) (h1 : A < L) (h2 : L < n) (b : Bool) : QOk n A (L + 1) (Q ++ if b then [(A, L)] else []) := by
  cases b with
  | false =>
    simp only [Bool.false_eq_true, if_false, List.append_nil]
    exact ⟨h.nd, fun q hq => by have := h.lt q hq; omega⟩
  | true =>
    simp only [if_true]
    refine ⟨?_, fun q hq => ?_⟩
    · rw [List.nodup_append]
      refine ⟨h.nd, by simp, fun x hx y hy e => ?_⟩
      rw [List.mem_singleton] at hy
      have := h.lt x hx
      rw [e, hy] at this
      simp at this
    · rcases List.mem_append.mp hq with hq | hq
      · have := h.lt q hq; omega
      · rw [List.mem_singleton.mp hq]
        exact ⟨h1, h2, .inr ⟨rfl, Nat.lt_succ_self _⟩⟩
theorem vs_pt {C : Cfg} {e : RF.Env} {i : Nat} {Q : Ps} (h : getE e i = some (ptO Q)) : evalVs C (.cons (.v i) .nil) e = .ok [.lst (ptD Q)] e := by
  have v : viewE true (.v i) (evalE C (.v i) e) e = .ok (.lst (ptD Q)) e := by
    simp only [viewE, h, flat_lz, Bool.and_self, if_true]
    rw [toD_pt]
  rw [evalVs]
  simp only [pureXs]
  rw [v]
  simp only [RF.R.bind_ok]
  rw [evalVs]
  rfl
theorem inner_eq (m n : Nat) (w : Int) (T : List Nat) (hT : T.length = n) (hn : n ≤ 12) (a : Nat) (ha : a < n) (Q : Ps) (x : Option O) {k : Nat} {o : O} (ho : Gn k o) (hk : k < 600000) (hq : QOk n a (a + 1) Q) (hl : Q.length ≤ 12 * a) :
    ∃ Q' o' y, evalS (cc (m + 2)) Wf (.for (.nm 6) (.rng2 (.bin .add (.v 5) (.n 1)) (.v 1)) (.cons stO .nil)) (enO n w T o Q (some (zi a)) x) = .nx (enO n w T o' Q' (some (zi a)) y) ∧ QOk n (a + 1) (a + 2) Q' ∧ Q'.length ≤ 12 * (a + 1) ∧ Gn (k + 240) o' := by
  have it : evalIt (cc (m + 2)) (.rng2 (.bin .add (.v 5) (.n 1)) (.v 1)) (enO n w T o Q (some (zi a)) x) = .ok ((List.range (n - (a + 1))).map fun (j : Nat) => D.int (a + 1 + j : Nat)) (enO n w T o Q (some (zi a)) x) := it_rng2 (m := a + 1) (n := n) (by omega) (by omega) (add_ok (x := (a : Int)) (y := 1) (ev_v rfl) ev_n) (ev_v rfl)
  obtain ⟨e', h1, o', Q', y, h2, h3, h4, h5⟩ := ev_for (t := .nm 6) (body := fun e => evalSs (cc (m + 2)) Wf (.cons stO .nil) e) (q := fun (j : Nat) => D.int (a + 1 + j : Nat))
    (fun j e => ∃ o' Q' y, Gn (k + 20 * j) o' ∧ QOk n a (a + 1 + j) Q' ∧ Q'.length ≤ 12 * a + j ∧ e = enO n w T o' Q' (some (zi a)) y) (xs := List.range (n - (a + 1))) (k := 0) (e := enO n w T o Q (some (zi a)) x) ⟨o, Q, x, ho, hq, by omega, rfl⟩ (fun j z e hj ⟨o1, Q1, y, q1, q2, q3, he⟩ => by
      obtain ⟨h, rfl⟩ := List.getElem?_eq_some_iff.mp hj
      simp only [List.length_range] at h
      simp only [List.getElem_range, Nat.zero_add] at he q1 q2 q3 ⊢
      subst he
      obtain ⟨b, o2, s1, s2⟩ := stO_eq m n w T Q1 a (a + 1 + j) 0 (by omega) (by omega) (by omega) q1 (by omega)
      refine ⟨eO n w T Q1 a (a + 1 + j) o1, _, rfl, by rw [nxt s1]; exact nx0, o2, _, _, by rw [show k + 20 * (j + 1) = k + 20 * j + 20 by omega]; exact s2, q2.add (by omega) (by omega) b, ?_, rfl⟩
      cases b <;> simp <;> omega)
  simp only [Nat.zero_add, List.length_range] at h2 h3 h4
  subst h5
  refine ⟨Q', o', y, for_ok it h1, ⟨h3.nd, fun q hq => by have := h3.lt q hq; omega⟩, by omega, h2.mono (by omega)⟩
theorem drawnO_eq (m n k : Nat) (o : O) (ho : Gn k o) (h1 : 1 ≤ n) (hn : n ≤ 12) (hk : k < 500000) : ∃ S o', g (m + 4) f__law_drawn_order_of [o, zi n] = .rt (ptO S) [o'] ∧ Ord n S ∧ S.length ≤ 144 ∧ Gn (k + 4000) o' := by
  let e (o : O) : RF.Env := [some o, some (zi n), none, none, none, none, none]
  obtain ⟨w, o1, r1, r2, r3, r4⟩ := rnd_in (n := m + 1) (k := k) (i := 0) (E := .n 5) (env := e o) (x := 5) rfl ho (by omega) (by decide) ((show Sm 10 5 by unfold Sm; decide).mono (by decide)) ev_n
  obtain ⟨T, o2, d1, d2, d3⟩ := drawn_eq m (k + 10) o1 r4 (List.range n) (by rw [List.length_range]; omega) (by omega)
  have Tl : T.length = n := by rw [d2.length_eq, List.length_range]
  rw [List.length_range] at d3
  obtain ⟨a1, b1, c1, rfl, _⟩ := r4.ex
  obtain ⟨a2, b2, c2, rfl, _⟩ := d3.ex
  have lr : evalE (cc (m + 3)) (.lrange (.rng1 (.v 1))) (e (.l [zi a1, zi b1, zi c1])) = .ok (.l (((List.range n).map fun (j : Nat) => D.int j).map .z)) (e (.l [zi a1, zi b1, zi c1])) := by
    rw [evalE, it_rngN (k := n) (by omega) (ev_v rfl)]
    simp only [RF.R.bind_ok, lenOk_of (show ((List.range n).map fun (j : Nat) => D.int j).length < 2 ^ 20 by rw [List.length_map, List.length_range]; omega), if_true]
  have dc : evalE (cc (m + 3)) (.call false f__law_drawn_order (.cons (.v 0) (.cons (.lrange (.rng1 (.v 1))) .nil))) (e (.l [zi a1, zi b1, zi c1])) = .ok (on T) (e (.l [zi a2, zi b2, zi c2])) := call_ref (sg__law_drawn_order _) rfl lr (by rw [toD_lz]; exact d1)
  have s1 : evalS (cc (m + 3)) Wf (.par [2, 3] (.cons (rcall 5) (.cons (.call false f__law_drawn_order (.cons (.v 0) (.cons (.lrange (.rng1 (.v 1))) .nil))) .nil))) (e o) = .nx [some (.l [zi a2, zi b2, zi c2]), some (zi n), some (zi w), some (on T), none, none, none] := by
    rw [evalS, es_e r1 (es_e dc es_0)]
    rfl
  have s2 : evalS (cc (m + 3)) Wf (.set 4 (.lst .nil)) [some (.l [zi a2, zi b2, zi c2]), some (zi n), some (zi w), some (on T), none, none, none] = .nx (enO n w T (.l [zi a2, zi b2, zi c2]) [] none none) := set_ok ev_nil
  let bd : Ss := .cons (.for (.nm 6) (.rng2 (.bin .add (.v 5) (.n 1)) (.v 1)) (.cons stO .nil)) .nil
  obtain ⟨e', f1, o', Q, x, y, f2, f3, f4, f5⟩ := ev_for (t := .nm 5) (body := fun e => evalSs (cc (m + 3)) Wf bd e) (q := fun (j : Nat) => D.int j)
    (fun i e => ∃ o' Q x y, Gn (k + 10 + 10 * n + 240 * i) o' ∧ QOk n i (i + 1) Q ∧ Q.length ≤ 12 * i ∧ e = enO n w T o' Q x y) (xs := List.range n) (k := 0) (e := enO n w T (.l [zi a2, zi b2, zi c2]) [] none none) ⟨_, [], none, none, d3, ⟨List.nodup_nil, (fun _ z => nomatch z)⟩, by simp, rfl⟩ (fun i z e hj ⟨o1, Q1, x, y, q1, q2, q3, he⟩ => by
      obtain ⟨h, rfl⟩ := List.getElem?_eq_some_iff.mp hj
      simp only [List.length_range] at h
      simp only [List.getElem_range, Nat.zero_add] at he q1 q2 q3 ⊢
      subst he
      obtain ⟨Q2, o2, y2, s1, s2, s3, s4⟩ := inner_eq (m + 1) n w T Tl hn i h Q1 y q1 (by omega) q2 q3
      exact ⟨enO n w T o1 Q1 (some (zi i)) y, _, rfl, by show evalSs _ _ (.cons _ .nil) _ = _; rw [nxt s1]; exact nx0, o2, Q2, _, _, by rw [show k + 10 + 10 * n + 240 * (i + 1) = k + 10 + 10 * n + 240 * i + 240 by omega]; exact s4, s2, s3, rfl⟩)
  simp only [Nat.zero_add, List.length_range] at f2 f3 f4
  subst f5
  obtain ⟨S, p1, p2, p3⟩ := sortPN (Q.map (fT T))
  have fin : evalE (cc (m + 3)) (.blt .sorted (.cons (.v 4) .nil)) (enO n w T o' Q x y) = .ok (ptO S) (enO n w T o' Q x y) := blv_ok (vs_pt rfl) p3
  refine ⟨S, o', ?_, ord_of d2 (fun q hq => by have := f3.lt q hq; omega) f3.nd p1 p2, ?_, f2.mono (by omega)⟩
  · obtain ⟨os, rfl⟩ := f2.isl
    rw [at__law_drawn_order_of, run_eq (h := rfl)]
    show RF.finish [true, false] (evalSs (cc (m + 3)) Wf (.cons _ (.cons _ (.cons (.for (.nm 5) (.rng1 (.v 1)) bd) (.cons (.ret _) .nil)))) (e o)) = _
    rw [nxt s1, nxt s2, nxt (for_ok (it_rngN (k := n) (by omega) (ev_v rfl)) f1), nxr (ret_ok (by intro i z; cases z) fin)]
    rfl
  · rw [p1.length_eq, List.length_map]
    omega
end K03
/-! K03j: the text of an order. -/
namespace K03
open RF MX
open PySem (PyData sizeLine)
def small (ns : List Int) : Prop := ∀ n ∈ ns, n.natAbs < 2 ^ 30
theorem small.lg {ns : List Int} (h : small ns) {n : Int} (hn : n ∈ ns) : n.natAbs.log2 ≤ 30 := Sm.log (k := 30) (h n hn)
theorem sh_ints : ∀ {ns : List Int}, small ns → PyData.showableAll (ns.map .int) = true
  | [], _ => by simp [PyData.showableAll]
  | n :: ns, h => by
    have l := h.lg List.mem_cons_self
    have r := sh_ints (ns := ns) fun m hm => h m (List.mem_cons_of_mem _ hm)
    simp only [List.map_cons, PyData.showableAll, PyData.showable, r, Bool.and_true, decide_eq_true_eq]
    omega
theorem hd_ints : ∀ ns : List Int, PyData.hasDictAll (ns.map .int) = false
  | [] => by simp [PyData.hasDictAll]
  | n :: ns => by simp only [List.map_cons, PyData.hasDictAll, PyData.hasDict, hd_ints ns, Bool.or_self]
theorem lv_ints : ∀ {ns : List Int}, small ns → PyData.leavesShortAll 13 (ns.map .int) = true
  | [], _ => by simp [PyData.leavesShortAll]
  | n :: ns, h => by
    have l := PyData.shown_int_le (i := n) (Nat.lt_trans (h n List.mem_cons_self) (by decide))
    have r := lv_ints (ns := ns) fun m hm => h m (List.mem_cons_of_mem _ hm)
    simp only [List.map_cons, PyData.leavesShortAll, PyData.leavesShort, r, Bool.and_true, decide_eq_true_eq]
    exact l
theorem wt_ints : ∀ {ns : List Int}, small ns → PyData.weightAll (ns.map .int) ≤ 40 * ns.length
  | [], _ => by simp [PyData.weightAll]
  | n :: ns, h => by
    have l := h.lg List.mem_cons_self
    have r := wt_ints (ns := ns) fun m hm => h m (List.mem_cons_of_mem _ hm)
    simp only [List.map_cons, PyData.weightAll, PyData.weight, List.length_cons]
    split <;> omega
theorem signs_rp : (PySem.Str.ofString ")").cps.toList = [41] := by decide +kernel
theorem free_pair (i j : Int) : ok2 (.tuple ([i, j].map PyData.int)) := fun k hk => by
  rw [PyData.shown_tuple]
  have q := PyProof.Rows.shownAll_free (k := k) (xs := [i, j].map PyData.int) (fun x hx => by
    obtain ⟨n, _, rfl⟩ := List.mem_map.mp hx
    exact free_int n k hk)
  rw [PyProof.Rows.mem_cps_append, PyProof.Rows.mem_cps_append, PyProof.Rows.signs_lparen, PyProof.Rows.mem_join, PyProof.Rows.signs_sep, show (if (([i, j].map PyData.int).length == 1) = true then ",)" else ")") = ")" from rfl, signs_rp]
  rintro ((hm | (⟨t, ht, hc⟩ | ⟨_, hm⟩)) | hm)
  · simp at hm; omega
  · exact q t ht hc
  · simp at hm; omega
  · simp at hm; omega
abbrev tupP (p : Nat × Nat) : PyData := .tuple ([(p.1 : Int), (p.2 : Int)].map PyData.int)
def smallP (P : Ps) : Prop := ∀ p ∈ P, p.1 < 1000 ∧ p.2 < 1000
theorem smallP.two {P : Ps} (h : smallP P) {p : Nat × Nat} (hp : p ∈ P) : small [(p.1 : Int), (p.2 : Int)] := fun n hn => by
  have := h p hp
  simp only [List.mem_cons, List.not_mem_nil, or_false] at hn
  rcases hn with rfl | rfl <;> omega
theorem py_pD (P : Ps) : (pD P).py = .list (P.map tupP) := by
  simp only [D.py]
  rw [D.pys_map, ptD, List.map_map]
  congr 1
theorem shP : ∀ {P : Ps}, smallP P → PyData.showableAll (P.map tupP) = true
  | [], _ => by simp [PyData.showableAll]
  | p :: P, h => by
    have a := sh_ints (h.two List.mem_cons_self)
    have r := shP (P := P) fun q hq => h q (List.mem_cons_of_mem _ hq)
    simp only [List.map_cons, PyData.showableAll, PyData.showable] at a r ⊢
    simp only [a, r, Bool.and_self]
theorem hdP : ∀ P : Ps, PyData.hasDictAll (P.map tupP) = false
  | [] => by simp [PyData.hasDictAll]
  | p :: P => by
    have r := hdP P
    simp only [List.map_cons, PyData.hasDictAll, PyData.hasDict] at r ⊢
    simp only [r, PyData.hasDictAll, PyData.hasDict, List.map_nil, Bool.or_self]
theorem lvP : ∀ {P : Ps}, smallP P → PyData.leavesShortAll 13 (P.map tupP) = true
  | [], _ => by simp [PyData.leavesShortAll]
  | p :: P, h => by
    have a := lv_ints (h.two List.mem_cons_self)
    have r := lvP (P := P) fun q hq => h q (List.mem_cons_of_mem _ hq)
    simp only [List.map_cons, PyData.leavesShortAll, PyData.leavesShort] at a r ⊢
    simp only [a, r, Bool.and_self]
theorem wtP : ∀ {P : Ps}, smallP P → PyData.weightAll (P.map tupP) ≤ 200 * P.length
  | [], _ => by simp [PyData.weightAll]
  | p :: P, h => by
    have a := wt_ints (h.two List.mem_cons_self)
    have r := wtP (P := P) fun q hq => h q (List.mem_cons_of_mem _ hq)
    simp only [List.map_cons, List.map_nil, PyData.weightAll, PyData.weight, List.length_cons, List.length_nil] at a r ⊢
    omega
theorem repr_okP {P : Ps} (h : smallP P) (hl : P.length ≤ 144) : reprOk (pD P) = true ∧ PyData.strOk (pD P).py.shown = true := by
  have gd : Gd 2 (pD P) := gd_pD (by omega)
  have ok : (pD P).ok 60 = true := ok_mono gd.ok (by decide)
  have sh : PyData.showable (.list (P.map tupP)) = true := by simp only [PyData.showable]; exact shP h
  have hd : PyData.hasDict (.list (P.map tupP)) = false := by simp only [PyData.hasDict]; exact hdP P
  have lv : PyData.leavesShort 13 (.list (P.map tupP)) = true := by simp only [PyData.leavesShort]; exact lvP h
  have ln := PyData.shown_le 13 (by decide) _ lv
  have wt : PyData.weight (.list (P.map tupP)) ≤ 40000 := by
    have := wtP h
    simp only [PyData.weight]
    omega
  have sz : sizeLine = 16777216 := rfl
  constructor
  · unfold reprOk
    rw [ok, py_pD, sh, hd, decide_eq_true (by omega)]
    rfl
  · rw [py_pD]
    refine strOk_of (free_list fun x hx => ?_)
    obtain ⟨p, _, rfl⟩ := List.mem_map.mp hx
    exact free_pair _ _
end K03
/-! K03k: wrong orders, things, lots: all refused. -/
namespace K03
open RF MX
abbrev sizes : List D := [.non, .int 0, .int 13, .int (-1), .bl true, .str ⟨#[51]⟩, .lst [.int 3]]
abbrev dS (n : Nat) (P : Ps) : Nat × List D := (f_stands_before, [.int n, pD P, .int 0, .int 0])
abbrev dC (n : Nat) (P : Ps) : Nat × List D := (f_closed_up, [.int n, pD P, .lst []])
abbrev deeds6 (n : Nat) (P : Ps) : List (Nat × List D) := [(f_all_pairs, [.int n, pD P]), (f_plain_pairs, [.int n, pD P]), (f_upper_lots, [.int n, pD P]), (f_in_a_row, [.int n, pD P]), dS n P, dC n P]
theorem refGrid : g 19 f__law_all_refused [.z (deedD [(f_grid_order, [.int 1, .int 1])]), zi 1, .z (.str k2), .z (.lst sizes)] = ret (zb true) := by kernel_rfl
theorem refSizes (n : Nat) (P : Ps) : g 19 f__law_all_refused [.z (deedD (deeds6 n P ++ [(f_row_order, [.int n]), (f_grid_order, [.int 1, .int 1])])), zi 0, .z (.str k2), .z (.lst sizes)] = ret (zb true) := by kernel_rfl
/-! ### the deeds raise what their check raises -/
section
variable {k : Nat} {a b c d : D} {c0 : Nat} {us : List D} (h : g (k + 7) f_check_case [.z a, .z b] = .ex c0 us)
include h
theorem four_ex {f : Nat} (hf : f = f_all_pairs ∨ f = f_plain_pairs ∨ f = f_upper_lots ∨ f = f_in_a_row) : g (k + 8) f [.z a, .z b] = .ex c0 us := by
  have q : evalE (cc (k + 7)) (.call true f_check_case (.cons (.v 0) (.cons (.v 1) .nil))) [some (.z a), some (.z b)] = .ex c0 us := rtx [a, b] (sg_check_case _) (args2 rfl rfl) h
  rcases hf with rfl | rfl | rfl | rfl
  · rw [at_all_pairs, run_eq (h := rfl)]
    show RF.finish [false, false] (evalSs (cc (k + 7)) Wf (.cons (.expr _) _) [some (.z a), some (.z b)]) = _
    rw [expr_ex q]; rfl
  · rw [at_plain_pairs, run_eq (h := rfl)]
    show RF.finish [false, false] (evalSs (cc (k + 7)) Wf (.cons (.expr _) _) [some (.z a), some (.z b)]) = _
    rw [expr_ex q]; rfl
  · rw [at_upper_lots, run_eq (h := rfl)]
    show RF.finish [false, false] (evalSs (cc (k + 7)) Wf (.cons (.expr _) _) [some (.z a), some (.z b)]) = _
    rw [expr_ex q]; rfl
  · rw [at_in_a_row, run_eq (h := rfl)]
    show RF.finish [false, false] (evalSs (cc (k + 7)) Wf (.cons (.expr _) _) [some (.z a), some (.z b)]) = _
    rw [expr_ex q]; rfl
theorem stands_ex : g (k + 8) f_stands_before [.z a, .z b, .z c, .z d] = .ex c0 us := by
  rw [at_stands_before, run_eq (h := rfl)]
  show RF.finish [false, false, false, false] (evalSs (cc (k + 7)) Wf (.cons (.expr _) _) [some (.z a), some (.z b), some (.z c), some (.z d)]) = _
  rw [expr_ex (rtx [a, b] (sg_check_case _) (args2 rfl rfl) h)]; rfl
theorem closed_ex : g (k + 8) f_closed_up [.z a, .z b, .z c] = .ex c0 us := by
  rw [at_closed_up, run_eq (h := rfl)]
  show RF.finish [false, false, false] (evalSs (cc (k + 7)) Wf (.cons (.expr _) _) [some (.z a), some (.z b), some (.z c), none, none, none]) = _
  rw [expr_ex (rtx [a, b] (sg_check_case _) (args2 rfl rfl) h)]; rfl
end
theorem ref_of {j f n c : Nat} {ds : List D} {w : D} {at0 : Nat} (hc : c < 5) (hl : ds.length < 1000) (hj : at0 ≤ ds.length) (hg : Gd n w) (hn : n ≤ 50)
    (h1 : g (j + n + 1) f__law_call [.z (.fn f), .z (.lst ((ds.take at0 ++ [w]) ++ (ds.drop (at0 + 1)).map fun _ => .non))] = .ex c [w])
    (h2 : g (j + n + 1) f__law_call [.z (.fn f), .z (.lst ((ds.take at0 ++ [w]) ++ ds.drop (at0 + 1)))] = .ex c [w]) :
    g (j + n + 4) f__law_refused [.z (.fn f), .z (.lst ds), zi at0, .z (.str (kindOf c)), .z w] = ret (zb true) :=
  refused_eq hl hj (raised_eq hc h1 hg hn) (raised_eq hc h2 hg hn)
/-! ### wrong orders -/
def wO1 (n : Nat) (P : Ps) : List D := [.non, .int 0, .str ⟨#[111, 114, 100, 101, 114]⟩, .tup [], .tup (ptD P), .lst [.non], .lst [tp 0 0], .lst [tp 0 n], .lst [.tup [.int (-1), .int 0]], .lst [.tup [.int 0]], .lst [.lst [.int 0, .int 1]], .lst [.tup [.bl true, .int 0]], .lst [.tup [.str ⟨#[48]⟩, .int 1]], .lst [.tup [.int 0, .int 1, .int 2]]]
def wO2 (P : Ps) : List D := if P.isEmpty then [] else [.lst (ptD (P ++ P.drop (P.length - 1)))]
def wO3 (n : Nat) : List D := if 1 < n then [.lst [tp 0 1, tp 1 0], .lst [tp 1 0, tp 0 1]] else []
def wO (n : Nat) (P : Ps) : List D := (wO1 n P ++ wO2 P) ++ wO3 n
theorem tupz {C : Cfg} {es : Xs} {e : RF.Env} {os : List O} {ds : List D} (h : evalEs C es e = .ok os e) (hz : os.all O.isZ = true) (hd : O.toDs os = ds) : evalE C (.tup es) e = .ok (.z (.tup ds)) e := by
  rw [evalE, h]
  simp only [RF.R.bind_ok, hz, if_true, hd]
abbrev lx : RF.X := .bin .add (.v 1) (.sl (.v 1) (.some (.neg (.n 1))) .none)
theorem lx_eq (m n : Nat) (P : Ps) (hP : P.length < 900) (h0 : P ≠ []) (u : Option O) : evalE (cc m) lx [some (zi n), some (.z (pD P)), u] = .ok (.l ((ptD (P ++ P.drop (P.length - 1))).map .z)) [some (zi n), some (.z (pD P)), u] := by
  have hp : 0 < P.length := List.length_pos_iff.mpr h0
  have cut : evalE (cc m) (.sl (.v 1) (.some (.neg (.n 1))) .none) [some (zi n), some (.z (pD P)), u] = .ok (.l (((ptD P).drop (P.length - 1)).map .z)) [some (zi n), some (.z (pD P)), u] := by
    have p : evalPart (cc m) (.some (.neg (.n 1))) [some (zi n), some (.z (pD P)), u] = .ok (some (-1)) [some (zi n), some (.z (pD P)), u] := by rw [evalPart, neg_ok (x := 1) ev_n]; rfl
    have q : evalPart (cc m) .none [some (zi n), some (.z (pD P)), u] = .ok none [some (zi n), some (.z (pD P)), u] := by rw [evalPart]
    rw [evalE]
    simp only [viewE, show getE [some (zi n), some (.z (pD P)), u] 1 = some (.z (pD P)) from rfl, RF.R.bind_ok, q, p]
    unfold cutL
    have l : (ptD P).length = P.length := List.length_map _
    have hs : HT.sIx (ptD P).length 0 (some (-1 : Int)) = P.length - 1 := by
      rw [l]
      simp only [HT.sIx]
      rw [if_pos (by decide)]
      omega
    rw [HT.sIx_none, hs, List.take_of_length_le (by rw [List.length_drop]; omega)]
  have q := cat_ok (ev_v (C := cc m) (e := [some (zi n), some (.z (pD P)), u]) (i := 1) (d := pD P) rfl) cut rfl (toD_lz _) (by rw [List.length_map]; omega) (by rw [List.length_drop, List.length_map]; omega)
  rw [q, show ptD (P ++ P.drop (P.length - 1)) = ptD P ++ (ptD P).drop (P.length - 1) from by simp [ptD, List.map_drop]]
theorem wrongO_eq (k n : Nat) (P : Ps) (hP : P.length < 900) : g (k + 1) f__law_wrong_orders [zi n, .z (pD P)] = ret (.l ((wO n P).map .z)) := by
  rw [at__law_wrong_orders, run_eq (h := rfl)]
  let e (u : Option O) : RF.Env := [some (zi n), some (.z (pD P)), u]
  have tn : evalE (cc k) (.bin .sub (.n 0) (.n 1)) (e none) = .ok (zi (-1)) (e none) := sub_ok ev_n ev_n
  have t0 : evalE (cc k) (.tup .nil) (e none) = .ok (.z (.tup [])) (e none) := tupz es_0 rfl rfl
  have tu : evalE (cc k) (.blt .tuple (.cons (.v 1) .nil)) (e none) = .ok (.z (.tup (ptD P))) (e none) := blv_ok (vs1 (ev_v rfl)) rfl
  let os1 : List O := [.z .non, zi 0, .z (.str ⟨#[111, 114, 100, 101, 114]⟩), .z (.tup []), .z (.tup (ptD P)), .l [.z .non], .l [.z (tp 0 0)], .l [.z (tp 0 n)], .l [.z (.tup [.int (-1), .int 0])], .l [.z (.tup [.int 0])], .l [.l [zi 0, zi 1]], .l [.z (.tup [.bl true, .int 0])], .l [.z (.tup [.str ⟨#[48]⟩, .int 1])], .l [.z (.tup [.int 0, .int 1, .int 2])]]
  have d1 : O.toDs os1 = wO1 n P := rfl
  have s1 := set_ok (C := cc k) (W := Wf) (i := 2) (lst_ok (es_c (ev_non (C := cc k) (e := e none)) (es_c (ev_n (k := 0)) (es_c (ev_s (x := ⟨#[111, 114, 100, 101, 114]⟩)) (es_c t0 (es_c tu (es_c (lst1_ok ev_non) (es_c (lst1_ok (tup2_ok (ev_n (k := 0)) (ev_n (k := 0)))) (es_c (lst1_ok (tup2_ok (ev_n (k := 0)) (ev_v (i := 0) rfl)))
    (es_c (lst1_ok (tup2_ok tn (ev_n (k := 0)))) (es_c (lst1_ok (tupz (es_c (ev_n (k := 0)) es_0) rfl rfl)) (es_c (lst1_ok (lst2_ok (ev_n (k := 0)) (ev_n (k := 1)))) (es_c (lst1_ok (tup2_ok (ev_tt (b := true)) (ev_n (k := 0)))) (es_c (lst1_ok (tup2_ok (ev_s (x := ⟨#[48]⟩)) (ev_n (k := 1)))) (es_c (lst1_ok (tupz (es_c (ev_n (k := 0)) (es_c (ev_n (k := 1)) (es_c (ev_n (k := 2)) es_0))) rfl rfl)) es_0)))))))))))))))
  -- the second part
  let i1 : RF.X := .ite (.cmp .ne (.v 1) (.lst .nil)) (.lst (.cons lx .nil)) (.lst .nil)
  have c1 : ∀ u, evalE (cc k) (.cmp .ne (.v 1) (.lst .nil)) (e u) = .ok (zb (!P.isEmpty)) (e u) := fun u => by
    have q := cmp_ok (p := .ne) (ev_v (C := cc k) (e := e u) (i := 1) (d := pD P) rfl) (ev_nil (C := cc k) (e := e u)) (ne_nil (ds := ptD P) fun d hd => by
      obtain ⟨p, _, rfl⟩ := List.mem_map.mp hd
      exact ok_tp _ _ 58)
    rw [List.isEmpty_map] at q
    exact q
  have x1 : ∀ u, ∃ o, evalE (cc k) i1 (e u) = .ok o (e u) ∧ o.toD = .lst (wO2 P) := fun u => by
    have c := c1 u
    unfold wO2
    cases q : P.isEmpty with
    | true =>
      rw [q] at c
      refine ⟨.l [], ?_, rfl⟩
      rw [evalE, c]
      exact ev_nil (C := cc k)
    | false =>
      rw [q] at c
      refine ⟨.l [.l ((ptD (P ++ P.drop (P.length - 1))).map .z)], ?_, ?_⟩
      · rw [evalE, c]
        exact lst1_ok (lx_eq k n P hP (fun z => by rw [z] at q; cases q) u)
      · simp only [O.toD, O.toDs]
        rw [toDs_z]
        rfl
  let i2 : RF.X := .ite (.cmp .gt (.v 0) (.n 1)) (.lst (.cons (.lst (.cons (.tup (.cons (.n 0) (.cons (.n 1) .nil))) (.cons (.tup (.cons (.n 1) (.cons (.n 0) .nil))) .nil))) (.cons (.lst (.cons (.tup (.cons (.n 1) (.cons (.n 0) .nil))) (.cons (.tup (.cons (.n 0) (.cons (.n 1) .nil))) .nil))) .nil))) (.lst .nil)
  have x2 : ∀ u, ∃ o, evalE (cc k) i2 (e u) = .ok o (e u) ∧ o.toD = .lst (wO3 n) := fun u => by
    have c : evalE (cc k) (.cmp .gt (.v 0) (.n 1)) (e u) = .ok (zb (decide ((1 : Int) < n))) (e u) := gt_ok (ev_v rfl) ev_n
    unfold wO3
    by_cases q : 1 < n
    · rw [decide_eq_true (by omega)] at c
      rw [if_pos q]
      refine ⟨.l [.l [.z (tp 0 1), .z (tp 1 0)], .l [.z (tp 1 0), .z (tp 0 1)]], ?_, rfl⟩
      rw [evalE, c]
      exact lst2_ok (C := cc k) (lst2_ok (tup2_ok ev_n ev_n) (tup2_ok ev_n ev_n)) (lst2_ok (tup2_ok ev_n ev_n) (tup2_ok ev_n ev_n))
    · rw [decide_eq_false (by omega)] at c
      rw [if_neg q]
      refine ⟨.l [], ?_, rfl⟩
      rw [evalE, c]
      exact ev_nil (C := cc k)
  have l2 : (wO2 P).length < 2 ^ 20 := by unfold wO2; split <;> simp
  have l3 : (wO3 n).length < 2 ^ 20 := by unfold wO3; split <;> simp
  have l2' : (wO2 P).length ≤ 1 := by unfold wO2; split <;> simp
  have l12 : (wO1 n P ++ wO2 P).length < 2 ^ 20 := by
    rw [List.length_append]
    have : (wO1 n P).length = 14 := rfl
    omega
  obtain ⟨o1, y1, z1⟩ := x1 (some (frz (.l os1)))
  obtain ⟨o2, y2, z2⟩ := x2 (some (frz (.l os1)))
  have f1 := catf_ok (C := cc k) (i := 2) (x := i1) (e := e (some (.l os1))) (os := os1) (ds := wO1 n P) rfl rfl rfl d1 y1 z1 (by simp [wO1]) l2
  have f2 := bin_okl (p := .add) (C := cc k) (a := .bin .add (.v 2) i1) (b := i2) (by intro i z; cases z) f1 y2 (r := .l ((wO n P).map .z)) (by
    rw [toD_lz, z2]
    simp only [binop, lenOk_of l12, lenOk_of l3, Bool.and_self, if_true]
    rfl)
  show RF.finish [false, false] (evalSs (cc k) Wf (.cons (.set 2 _) (.cons (.ret (.bin .add (.bin .add (.v 2) i1) i2)) .nil)) (e none)) = _
  refine (fin_nxt s1).trans ?_
  refine (fin_nxr (ret_ok (by intro i z; cases z) f2)).trans ?_
  rfl
theorem asc_last {P : Ps} (h0 : P ≠ []) : ascB (P ++ P.drop (P.length - 1)) = false := by
  have hp : 0 < P.length := List.length_pos_iff.mpr h0
  have hl : (P ++ P.drop (P.length - 1)).length = P.length + 1 := by rw [List.length_append, List.length_drop]; omega
  cases q : ascB (P ++ P.drop (P.length - 1)) with
  | false => rfl
  | true =>
    unfold ascB at q
    rw [List.isEmpty_iff, List.filter_eq_nil_iff] at q
    have := q (P.length - 1) (List.mem_range.mpr (by omega))
    have e1 : (P ++ P.drop (P.length - 1)).getD (P.length - 1) (0, 0) = P[P.length - 1] := by
      rw [List.getD_eq_getElem?_getD, List.getElem?_append_left (by omega), List.getElem?_eq_getElem (by omega)]
      rfl
    have e2 : (P ++ P.drop (P.length - 1)).getD (P.length - 1 + 1) (0, 0) = P[P.length - 1] := by
      rw [List.getD_eq_getElem?_getD, List.getElem?_append_right (by omega), List.getElem?_drop, show P.length - 1 + (P.length - 1 + 1 - P.length) = P.length - 1 by omega, List.getElem?_eq_getElem (by omega)]
      rfl
    rw [e1, e2] at this
    simp [RX.geP] at this
theorem wO_bad (n : Nat) (P : Ps) (v : Vd n P) (hP : P.length < 800) (h1 : 1 ≤ n) (h2 : n ≤ 12) (k : Nat) : ∀ w ∈ wO n P, Gd 3 w ∧ g (k + 5) f_is_order_of [zi n, .z w] = ret (zb false) := by
  intro w hw
  have s0 : PySem.PyData.strOk ⟨#[111, 114, 100, 101, 114]⟩ = true := by decide +kernel
  have s1 : PySem.PyData.strOk ⟨#[48]⟩ = true := by decide +kernel
  have no : ∀ {d : D}, Gd 3 d → (∀ ds, d = .lst ds → ∃ x ∈ ds, pairB n x = false) → Gd 3 d ∧ g (k + 5) f_is_order_of [zi n, .z d] = ret (zb false) := fun h hb => ⟨h, order_no k n h hb⟩
  have one : ∀ {x : D}, Gd 2 x → pairB n x = false → Gd 3 (.lst [x]) ∧ g (k + 5) f_is_order_of [zi n, .z (.lst [x])] = ret (zb false) := fun {x} h hb => by
    refine no ?_ fun ds e => ⟨x, ?_, hb⟩
    · simp only [Gd]
      exact ⟨by simp, fun d hd => by rw [List.mem_singleton.mp hd]; exact h⟩
    · injection e with e; rw [← e]; exact List.mem_singleton.mpr rfl
  have two : ∀ {x y : D}, Gd 1 x → Gd 1 y → Gd 2 (.tup [x, y]) := fun {x y} hx hy => by
    simp only [Gd]
    refine ⟨by simp, fun d hd => ?_⟩
    simp only [List.mem_cons, List.not_mem_nil, or_false] at hd
    rcases hd with rfl | rfl
    · exact hx
    · exact hy
  rw [wO, List.mem_append, List.mem_append] at hw
  rcases hw with (hw | hw) | hw
  · simp only [wO1, List.mem_cons, List.not_mem_nil, or_false] at hw
    rcases hw with rfl | rfl | rfl | rfl | rfl | rfl | rfl | rfl | rfl | rfl | rfl | rfl | rfl | rfl
    · exact no trivial (fun ds z => by cases z)
    · exact no trivial (fun ds z => by cases z)
    · exact no s0 (fun ds z => by cases z)
    · exact no (by simp [Gd]) (fun ds z => by cases z)
    · have := gd_pD (P := P) (by omega)
      simp only [Gd] at this
      exact no (by simp only [Gd]; exact ⟨this.1, fun d hd => (this.2 d hd).mono (by decide)⟩) (fun ds z => by cases z)
    · exact one trivial rfl
    · exact one (two trivial trivial) (by simp only [pairB]; rw [eqv_int]; simp)
    · exact one (two trivial trivial) (by simp [pairB, belowB])
    · exact one (two trivial trivial) (by simp [pairB, belowB])
    · exact one (by simp [Gd]) rfl
    · exact one (by simp [Gd]) rfl
    · exact one (two trivial trivial) (by simp [pairB, belowB])
    · exact one (two s1 trivial) (by simp [pairB, belowB])
    · exact one (by simp [Gd]) rfl
  · unfold wO2 at hw
    split at hw
    · cases hw
    · rename_i q
      rw [List.mem_singleton.mp hw]
      have h0 : P ≠ [] := fun z => q (by rw [z]; rfl)
      have hl : (P ++ P.drop (P.length - 1)).length < 900 := by rw [List.length_append, List.length_drop]; omega
      have vv : Vd n (P ++ P.drop (P.length - 1)) := ⟨hl, fun p hp => by
        rcases List.mem_append.mp hp with hp | hp
        · exact v.2 p hp
        · exact v.2 p (List.mem_of_mem_drop hp)⟩
      have q := order_gen k n (by omega) vv
      rw [asc_last h0, Bool.false_and] at q
      exact ⟨(gd_pD hl).mono (by decide), q⟩
  · unfold wO3 at hw
    split at hw
    · rename_i hn1
      have vv : ∀ Q : Ps, (∀ p ∈ Q, p = (0, 1) ∨ p = (1, 0)) → Q.length < 900 → Vd n Q := fun Q h hl => ⟨hl, fun p hp => by
        rcases h p hp with rfl | rfl
        · exact ⟨by show 0 < n; omega, hn1, by decide⟩
        · exact ⟨hn1, by show 0 < n; omega, by decide⟩⟩
      simp only [List.mem_cons, List.not_mem_nil, or_false] at hw
      rcases hw with rfl | rfl
      · have w := vv [(0, 1), (1, 0)] (by simp) (by simp)
        have q := order_gen k n (by omega) w
        have ac : acB n [(0, 1), (1, 0)] = false := by
          cases z : acB n [(0, 1), (1, 0)] with
          | false => rfl
          | true =>
            unfold acB at z
            rw [List.isEmpty_iff, List.filter_eq_nil_iff] at z
            exact absurd ((b_rc (fun p hp => ⟨(w.2 p hp).1, (w.2 p hp).2.1⟩) 0 0).mpr (.step (k := 1) (by simp) (.one (by simp)))) (z 0 (List.mem_range.mpr (by omega)))
        rw [ac, Bool.and_false] at q
        exact ⟨(gd_pD (P := [(0, 1), (1, 0)]) (by simp)).mono (by decide), q⟩
      · have w := vv [(1, 0), (0, 1)] (by simp) (by simp)
        have q := order_gen k n (by omega) w
        rw [show ascB [(1, 0), (0, 1)] = false from by decide +kernel, Bool.false_and] at q
        exact ⟨(gd_pD (P := [(1, 0), (0, 1)]) (by simp)).mono (by decide), q⟩
    · cases hw
theorem refOrders {n : Nat} {P : Ps} (v : Vd n P) (hP : P.length < 800) (h1 : 1 ≤ n) (h2 : n ≤ 12) : g 19 f__law_all_refused [.z (deedD (deeds6 n P)), zi 1, .z (.str k0), .z (.lst (wO n P))] = ret (zb true) := by
  refine all_refused_eq (j := 1) (by
    rw [wO, List.length_append, List.length_append]
    have : (wO1 n P).length = 14 := rfl
    have : (wO2 P).length ≤ 1 := by unfold wO2; split <;> simp
    have : (wO3 n).length ≤ 2 := by unfold wO3; split <;> simp
    omega) (fun p hp w hw => ?_)
  obtain ⟨g1, g2⟩ := wO_bad n P v hP h1 h2 6 w hw
  have cs := chk_case 6 n h1 h2 g2
  rw [if_neg Bool.false_ne_true] at cs
  have go : ∀ (f : Nat) (ds : List D), ds.length = 2 ∨ ds.length = 3 ∨ ds.length = 4 → sigT T f = List.replicate ds.length false → (∀ us : List D, us.length = ds.length → us[0]? = some (.int n) → us[1]? = some w → g 14 f (us.map .z) = .ex 0 [w]) → ds[0]? = some (.int n) → g 18 f__law_refused [.z (.fn f), .z (.lst ds), zi (1 : Nat), .z (.str (kindOf 0)), .z w] = ret (zb true) := fun f ds hl hs hg h0 => by
    have tk : ds.take 1 = [.int n] := by
      cases ds with
      | nil => cases h0
      | cons x xs => simp at h0; rw [h0]; rfl
    have l1 : ((ds.take 1 ++ [w]) ++ (ds.drop (1 + 1)).map fun _ => D.non).length = ds.length := by rw [tk]; simp; omega
    have l2 : ((ds.take 1 ++ [w]) ++ ds.drop (1 + 1)).length = ds.length := by rw [tk]; simp; omega
    refine ref_of (j := 11) (n := 3) (c := 0) (at0 := 1) (by decide) (by omega) (by omega) g1 (by decide) ?_ ?_
    · exact lcall (by rw [l1]; omega) (by rw [l1]; omega) (by rw [l1]; exact hs) (hg _ l1 (by rw [tk]; rfl) (by rw [tk]; rfl))
    · exact lcall (by rw [l2]; omega) (by rw [l2]; omega) (by rw [l2]; exact hs) (hg _ l2 (by rw [tk]; rfl) (by rw [tk]; rfl))
  have g4 : ∀ f, (f = f_all_pairs ∨ f = f_plain_pairs ∨ f = f_upper_lots ∨ f = f_in_a_row) → ∀ us : List D, us.length = 2 → us[0]? = some (.int n) → us[1]? = some w → g 14 f (us.map .z) = .ex 0 [w] := fun f hf us hl u0 u1 => by
    match us, hl with
    | [x, y], _ =>
      simp at u0 u1
      subst u0 u1
      exact four_ex (k := 6) cs hf
  simp only [List.mem_cons, List.not_mem_nil, or_false] at hp
  rcases hp with rfl | rfl | rfl | rfl | rfl | rfl
  · exact go _ _ (.inl rfl) rfl (g4 _ (.inl rfl)) rfl
  · exact go _ _ (.inl rfl) rfl (g4 _ (.inr (.inl rfl))) rfl
  · exact go _ _ (.inl rfl) rfl (g4 _ (.inr (.inr (.inl rfl)))) rfl
  · exact go _ _ (.inl rfl) rfl (g4 _ (.inr (.inr (.inr rfl)))) rfl
  · refine go _ _ (.inr (.inr rfl)) rfl (fun us hl u0 u1 => ?_) rfl
    match us, hl with
    | [x, y, z, t], _ =>
      simp at u0 u1
      subst u0 u1
      exact stands_ex (k := 6) cs
  · refine go _ _ (.inr (.inl rfl)) rfl (fun us hl u0 u1 => ?_) rfl
    match us, hl with
    | [x, y, z], _ =>
      simp at u0 u1
      subst u0 u1
      exact closed_ex (k := 6) cs
end K03
/-! K03l: odd things, wrong lots refused; tables. -/
namespace K03
open RF MX
abbrev odds (n : Nat) : List D := [.non, .int (-1), .int n, .bl true, .str ⟨#[48]⟩, .lst [.int 0], .tup [.int 0]]
theorem odds_eq (k n : Nat) : g (k + 1) f__law_odd_ones [zi n] = ret (.l [.z .non, zi (-1), zi n, zb true, .z (.str ⟨#[48]⟩), .l [zi 0], .z (.tup [.int 0])]) := by kernel_rfl
theorem odds_bad (n : Nat) : ∀ w ∈ odds n, Gd 3 w ∧ belowB n w = false := by
  intro w hw
  simp only [odds, List.mem_cons, List.not_mem_nil, or_false] at hw
  rcases hw with rfl | rfl | rfl | rfl | rfl | rfl | rfl
  · exact ⟨trivial, rfl⟩
  · exact ⟨trivial, by simp [belowB]⟩
  · exact ⟨trivial, by simp [belowB]⟩
  · exact ⟨trivial, rfl⟩
  · exact ⟨by show PySem.PyData.strOk _ = true; decide +kernel, rfl⟩
  · exact ⟨by simp [Gd], rfl⟩
  · exact ⟨by simp [Gd], rfl⟩
section
variable {n : Nat} {P : Ps} (o : Ord n P) (h1 : 1 ≤ n) (h2 : n ≤ 12) (hP : P.length < 900) (k : Nat)
include o h1 h2 hP
theorem stands_t1 {w x : D} (hg : Gd 3 w) (hb : belowB n w = false) : g (k + 8) f_stands_before [zi n, .z (pD P), .z w, .z x] = .ex 1 [w] := by
  have c := chk_thing (k + 3) n hg
  rw [hb, if_neg Bool.false_ne_true] at c
  rw [at_stands_before, run_eq (h := rfl)]
  show RF.finish [false, false, false, false] (evalSs (cc (k + 7)) Wf (.cons (.expr _) (.cons (.expr (.call true f_check_thing (.cons (.v 0) (.cons (.v 2) .nil)))) _)) (enS n P w x)) = _
  rw [nxt (expr_ok (rt2 (case_ok o h1 h2 hP k) (sg_check_case _) rfl rfl rfl)), expr_ex (rtx [.int n, w] (sg_check_thing _) (args2 rfl rfl) c)]
  rfl
theorem stands_t2 {w : D} {a : Nat} (ha : a < n) (hg : Gd 3 w) (hb : belowB n w = false) : g (k + 8) f_stands_before [zi n, .z (pD P), zi a, .z w] = .ex 1 [w] := by
  have ca := chk_thing (k + 3) n (d := .int a) trivial
  rw [below_nat ha, if_pos rfl] at ca
  have c := chk_thing (k + 3) n hg
  rw [hb, if_neg Bool.false_ne_true] at c
  rw [at_stands_before, run_eq (h := rfl)]
  show RF.finish [false, false, false, false] (evalSs (cc (k + 7)) Wf (.cons (.expr _) (.cons (.expr (.call true f_check_thing (.cons (.v 0) (.cons (.v 2) .nil)))) (.cons (.expr (.call true f_check_thing (.cons (.v 0) (.cons (.v 3) .nil)))) _))) (enS n P (.int a) w)) = _
  rw [nxt (expr_ok (rt2 (case_ok o h1 h2 hP k) (sg_check_case _) rfl rfl rfl)), nxt (expr_ok (rt2 ca (sg_check_thing _) rfl rfl rfl)), expr_ex (rtx [.int n, w] (sg_check_thing _) (args2 rfl rfl) c)]
  rfl
theorem closed_l {w : D} (hw : g (k + 7) f_is_lot_of [zi n, .z w] = ret (zb false)) : g (k + 8) f_closed_up [zi n, .z (pD P), .z w] = .ex 3 [w] := by
  rw [at_closed_up, run_eq (h := rfl)]
  show RF.finish [false, false, false] (evalSs (cc (k + 7)) Wf (.cons (.expr _) (.cons (.ite (.not (.call true f_is_lot_of (.cons (.v 0) (.cons (.v 2) .nil)))) (.cons (.raise 3 (.v 2)) .nil) .nil) _)) [some (zi n), some (.z (pD P)), some (.z w), none, none, none]) = _
  rw [nxt (expr_ok (rt2 (case_ok o h1 h2 hP k) (sg_check_case _) rfl rfl rfl)), evalSs, st_ite (not_ok (b := false) (rt2 hw (sg_is_lot_of _) rfl rfl rfl))]
  rfl
theorem refThing2 : g 19 f__law_all_refused [.z (deedD [dS n P]), zi 2, .z (.str k1), .z (.lst (odds n))] = ret (zb true) := by
  refine all_refused_eq (j := 2) (by simp) (fun p hp w hw => ?_)
  obtain ⟨g1, g2⟩ := odds_bad n w hw
  rw [List.mem_singleton.mp hp]
  have c : ∀ x, g (11 + 3 + 1) f__law_call [.z (.fn f_stands_before), .z (.lst [.int n, pD P, w, x])] = .ex 1 [w] := fun x => lcall (by simp) (by simp) rfl (stands_t1 o h1 h2 hP 6 g1 g2)
  exact ref_of (j := 11) (n := 3) (c := 1) (at0 := 2) (ds := [.int n, pD P, .int 0, .int 0]) (by decide) (by simp) (by simp) g1 (by decide) (c _) (c _)
theorem refThing3 : g 19 f__law_all_refused [.z (deedD [dS n P]), zi 3, .z (.str k1), .z (.lst (odds n))] = ret (zb true) := by
  refine all_refused_eq (j := 3) (by simp) (fun p hp w hw => ?_)
  obtain ⟨g1, g2⟩ := odds_bad n w hw
  rw [List.mem_singleton.mp hp]
  have c : g (11 + 3 + 1) f__law_call [.z (.fn f_stands_before), .z (.lst [.int n, pD P, .int 0, w])] = .ex 1 [w] := lcall (by simp) (by simp) rfl (stands_t2 o h1 h2 hP 6 (a := 0) (by omega) g1 g2)
  exact ref_of (j := 11) (n := 3) (c := 1) (at0 := 3) (ds := [.int n, pD P, .int 0, .int 0]) (by decide) (by simp) (by simp) g1 (by decide) c c
abbrev lotsW (n : Nat) : List D := [.non, .int 0, .tup [], .lst [.int n], .lst [.int (-1)], .lst [.int 0, .int 0], .lst [.bl true], .lst [.str ⟨#[48]⟩]]
omit o h2 hP in
theorem lots_bad : ∀ w ∈ lotsW n, Gd 3 w ∧ g (k + 7) f_is_lot_of [zi n, .z w] = ret (zb false) := by
  intro w hw
  have no : ∀ {d : D}, Gd 3 d → (∀ ds, d = .lst ds → ∃ x ∈ ds, belowB n x = false) → Gd 3 d ∧ g (k + 7) f_is_lot_of [zi n, .z d] = ret (zb false) := fun h hb => ⟨h, lot_no (k + 3) n h hb⟩
  have one : ∀ {x : D}, Gd 2 x → belowB n x = false → Gd 3 (.lst [x]) ∧ g (k + 7) f_is_lot_of [zi n, .z (.lst [x])] = ret (zb false) := fun {x} h hb => by
    refine no ?_ fun ds e => ⟨x, ?_, hb⟩
    · simp only [Gd]
      exact ⟨by simp, fun d hd => by rw [List.mem_singleton.mp hd]; exact h⟩
    · injection e with e; rw [← e]; exact List.mem_singleton.mpr rfl
  simp only [lotsW, List.mem_cons, List.not_mem_nil, or_false] at hw
  rcases hw with rfl | rfl | rfl | rfl | rfl | rfl | rfl | rfl
  · exact no trivial (fun ds z => by cases z)
  · exact no trivial (fun ds z => by cases z)
  · exact no (by simp [Gd]) (fun ds z => by cases z)
  · exact one trivial (by simp [belowB])
  · exact one trivial (by simp [belowB])
  · have q := lot_gen (k + 3) n (l := [0, 0]) (by simp) (by simp; omega)
    rw [show ascL [0, 0] = false from by decide +kernel] at q
    exact ⟨by simp [Gd], q⟩
  · exact one trivial rfl
  · exact one (by show PySem.PyData.strOk _ = true; decide +kernel) rfl
theorem refLot : g 19 f__law_all_refused [.z (deedD [dC n P]), zi 2, .z (.str k3), .z (.lst (lotsW n))] = ret (zb true) := by
  refine all_refused_eq (j := 2) (by simp) (fun p hp w hw => ?_)
  obtain ⟨g1, g2⟩ := lots_bad h1 6 w hw
  rw [List.mem_singleton.mp hp]
  have c : g (11 + 3 + 1) f__law_call [.z (.fn f_closed_up), .z (.lst [.int n, pD P, w])] = .ex 3 [w] := lcall (by simp) (by simp) rfl (closed_l o h1 h2 hP 6 g2)
  exact ref_of (j := 11) (n := 3) (c := 3) (at0 := 2) (ds := [.int n, pD P, .lst []]) (by decide) (by simp) (by simp) g1 (by decide) c c
end
/-! ### tables -/
def gridR : Ss := match d__law_grid_right.body with | .cons _ r => r | .nil => .nil
theorem grid_rest (os : List O) : ∀ a b : Nat, a < 4 → b < 4 → RF.finish [true] (evalSs (cc 18) Wf gridR [some (.l os), some (zi (1 + a : Nat)), some (zi (1 + b : Nat)), none, none]) = .rt (zb true) [.l os] := by
  intro a b ha hb
  match a, ha, b, hb with
  | 0, _, 0, _ => kernel_rfl
  | 0, _, 1, _ => kernel_rfl
  | 0, _, 2, _ => kernel_rfl
  | 0, _, 3, _ => kernel_rfl
  | 1, _, 0, _ => kernel_rfl
  | 1, _, 1, _ => kernel_rfl
  | 1, _, 2, _ => kernel_rfl
  | 1, _, 3, _ => kernel_rfl
  | 2, _, 0, _ => kernel_rfl
  | 2, _, 1, _ => kernel_rfl
  | 2, _, 2, _ => kernel_rfl
  | 2, _, 3, _ => kernel_rfl
  | 3, _, 0, _ => kernel_rfl
  | 3, _, 1, _ => kernel_rfl
  | 3, _, 2, _ => kernel_rfl
  | 3, _, 3, _ => kernel_rfl
theorem grid_eq {k : Nat} {o : O} (ho : Gn k o) (hk : k < 800000) : ∃ o', g 19 f__law_grid_right [o] = .rt (zb true) [o'] ∧ Gn (k + 20) o' := by
  let e (o : O) : RF.Env := [some o, none, none, none, none]
  obtain ⟨r1, o1, a1, a2, a3, a4⟩ := rnd_in (n := 16) (k := k) (i := 0) (E := .n 4) (env := e o) (x := 4) rfl ho (by omega) (by decide) ((show Sm 10 4 by unfold Sm; decide).mono (by decide)) ev_n
  obtain ⟨r2, o2, b1, b2, b3, b4⟩ := rnd_in (n := 16) (k := k + 10) (i := 0) (E := .n 4) (env := e o1) (x := 4) rfl a4 (by omega) (by decide) ((show Sm 10 4 by unfold Sm; decide).mono (by decide)) ev_n
  obtain ⟨os, rfl⟩ := b4.isl
  refine ⟨.l os, ?_, b4⟩
  have s1 : evalS (cc 18) Wf (.par [1, 2] (.cons (.bin .add (.n 1) (rcall 4)) (.cons (.bin .add (.n 1) (rcall 4)) .nil))) (e o) = .nx [some (.l os), some (zi (1 + r1)), some (zi (1 + r2)), none, none] := by
    have x1 : evalE (cc 18) (.bin .add (.n 1) (rcall 4)) (e o) = .ok (zi (1 + r1)) (e o1) := bin_okr (by intro i z; cases z) ev_n a1 rfl
    have x2 : evalE (cc 18) (.bin .add (.n 1) (rcall 4)) (e o1) = .ok (zi (1 + r2)) (e (.l os)) := bin_okr (by intro i z; cases z) ev_n b1 rfl
    rw [evalS, es_e x1 (es_e x2 es_0)]
    rfl
  have gr := grid_rest os r1.toNat r2.toNat (by omega) (by omega)
  rw [show ((1 + r1.toNat : Nat) : Int) = 1 + r1 by omega, show ((1 + r2.toNat : Nat) : Int) = 1 + r2 by omega] at gr
  rw [at__law_grid_right, run_eq (h := rfl)]
  show RF.finish [true] (evalSs (cc 18) Wf (.cons _ gridR) (e o)) = _
  rw [nxt s1]
  exact gr
theorem call_ref1 {m f i : Nat} {env : RF.Env} {os os' : List O} {r : O} (hs : (cc m).sig f = [true]) (hi : getE env i = some (.l os)) (hz : os.all O.isZ = true) (hg : g m f [.l os] = .rt r [.l os']) : evalE (cc m) (.call false f (.cons (.v i) .nil)) env = .ok r (env.set i (some (.l os'))) := by
  have a1 : evalArgs (cc m) (.cons (.v i) .nil) [true] env = .ok [.ref i] env := by
    rw [evalArgs, hi]
    simp only [arg_0, RF.R.bind_ok]
  rw [evalE, hs, a1]
  simp only [RF.R.bind_ok]
  unfold doCall
  rw [if_pos (by rw [hs]; rfl)]
  have f1 : Ar.fetch env [.ref i] = some [.l os] := by
    simpa [Ar.fetch, hi, O.isZ] using hz
  rw [f1]
  show back1 env i (g m f _) = _
  rw [hg]
  rfl
end K03
/-! K03n: the case, first part: what is told. -/
namespace K03
open RF MX
theorem frz_pt (S : Ps) : frz (ptO S) = .z (pD S) := by unfold frz; rw [toD_pt]
theorem ev_vpt {C : Cfg} {e : RF.Env} {i : Nat} {S : Ps} (h : getE e i = some (ptO S)) : evalE C (.v i) e = .ok (.z (pD S)) (e.set i (some (.z (pD S)))) := by
  rw [ev_vz h, frz_pt]
theorem tupT3 {C : Cfg} {a b c : RF.X} {e e1 e2 e3 : RF.Env} {x y z : O} (h : evalE C a e = .ok x e1) (h2 : evalE C b e1 = .ok y e2) (h3 : evalE C c e2 = .ok z e3) (hz : (x.isZ && (y.isZ && z.isZ)) = false) : evalE C (.tup (.cons a (.cons b (.cons c .nil)))) e = .ok (.t [x, y, z]) e3 := by
  rw [evalE, es_e h (es_e h2 (es_e h3 es_0))]
  simp only [RF.R.bind_ok, List.all_cons, List.all_nil, Bool.and_true, hz, Bool.false_eq_true, if_false]
theorem rtd {m f : Nat} {es : Xs} {e e1 : RF.Env} {o : O} (ds : List D) (hs : (cc m).sig f = List.replicate ds.length false) (h : evalArgs (cc m) es (List.replicate ds.length false) e = .ok (ds.map .val) e1) (hc : g m f (ds.map .z) = ret o) (cl : o.clean = false) : evalE (cc m) (.call true f es) e = .ok o e1 := by
  rw [evalE, hs, h]
  simp only [RF.R.bind_ok]
  rw [do_val ds hs]
  show back0 true e e1 (g m f (ds.map .z)) = _
  rw [hc]
  simp [ret, back0, cl]
theorem vs2 {C : Cfg} {a b : RF.X} {e : RF.Env} {x y : O} (ha : evalE C a e = .ok x e) (hb : evalE C b e = .ok y e) : evalVs C (.cons a (.cons b .nil)) e = .ok [x.toD, y.toD] e := by
  rw [evalVs, vw ha]
  simp only [RF.R.bind_ok]
  rw [evalVs, vw hb]
  simp only [RF.R.bind_ok]
  rw [evalVs]
  rfl
/-! ### all pairs, by the law -/
abbrev rowP (n : Nat) (P : Ps) (t : Nat) : Ps := ((List.range n).filter fun o => B n P t o).map fun o => (t, o)
theorem aP_flat (n : Nat) (P : Ps) : ∀ t, ((List.range t).map fun t => ptD (rowP n P t)).flatten = ptD (aP n P t)
  | 0 => rfl
  | t + 1 => by
    rw [List.range_succ, List.map_append, List.flatten_append, aP_flat n P t, aP, ptD, ptD, List.map_append]
    simp
theorem lists_map (xs : List (List D)) : lists? (xs.map D.lst) = some xs := by
  induction xs with
  | nil => rfl
  | cons x xs ih =>
    show (lists? (xs.map D.lst)).map _ = _
    rw [ih]
    rfl
theorem lpairs_eq {n : Nat} {P : Ps} (o : Ord n P) (h1 : 1 ≤ n) (hn : n < 1000) (k : Nat) : g (k + 2) f__law_all_pairs [zi n, .z (pD P)] = ret (ptO (aP n P n)) := by
  let e (b x y : Option O) : RF.Env := [some (zi n), some (.z (pD P)), b, x, y]
  let M : Option O := some (mat n (B n P))
  have s1 : evalS (cc (k + 1)) Wf (.set 2 (.call true f__law_before (.cons (.v 0) (.cons (.v 1) .nil)))) (e none none none) = .nx (e M none none) := set_ok (rt2 (o.before n k hn) (sg__law_before _) rfl rfl (clean_mat n _))
  let c1 : RF.X := .comp (.tup (.cons (.v 4) (.cons (.v 3) .nil))) (.nm 3) (.rng1 (.v 0)) (.some (.ix2 2 (.v 4) (.v 3))) [3]
  have q1 : ∀ t, t < n → evalE (cc (k + 1)) c1 (e M none (some (zi t))) = .ok (ptO (rowP n P t)) (e M none (some (zi t))) := fun t ht => by
    have q := ev_comp (C := cc (k + 1)) (elt := .tup (.cons (.v 4) (.cons (.v 3) .nil))) (t := .nm 3) (it := .rng1 (.v 0)) (cd := .some (.ix2 2 (.v 4) (.v 3))) (own := [3]) (env := e M none (some (zi t))) (env1 := e M none (some (zi t))) (List.range n) (fun (j : Nat) => D.int j) (fun o => B n P t o) (fun o => .z (tp t o))
      (it_rngN (by omega) (ev_v rfl)) (fun o ho => ⟨e M (some (zi o)) (some (zi t)), rfl, by rw [evalCond]; exact ix2_ok (F := B n P) rfl (ev_v rfl) (ev_v rfl) ht (List.mem_range.mp ho), fun _ => tup2_ok (ev_v rfl) (ev_v rfl), rfl⟩)
      (by rw [List.length_range]; omega) rfl (fun _ _ _ => rfl)
    rw [show ptO (rowP n P t) = .l (((List.range n).filter fun o => B n P t o).map fun o => .z (tp t o)) from by rw [ptO, List.map_map, List.map_map]; rfl]
    exact q
  have q2 : evalE (cc (k + 1)) (.comp c1 (.nm 4) (.rng1 (.v 0)) .none [4]) (e M none none) = .ok (.l ((List.range n).map fun t => ptO (rowP n P t))) (e M none none) :=
    ev_compA (List.range n) (fun (j : Nat) => D.int j) (fun t => ptO (rowP n P t)) (it_rngN (by omega) (ev_v rfl)) (fun t ht => ⟨e M none (some (zi t)), rfl, q1 t (List.mem_range.mp ht), rfl⟩) (by rw [List.length_range]; omega) rfl (fun t _ => clean_pt _)
  have td : (O.l ((List.range n).map fun t => ptO (rowP n P t))).toD = .lst (((List.range n).map fun t => ptD (rowP n P t)).map D.lst) := by
    simp only [O.toD]
    rw [O.toDs_map, List.map_map, List.map_map]
    refine congrArg D.lst (List.map_congr_left fun t _ => ?_)
    exact toD_pt _
  have v := vs2 q2 (ev_nil (C := cc (k + 1)) (e := e M none none))
  rw [td] at v
  have lf : ((List.range n).map fun t => ptD (rowP n P t)).flatten.length < 2 ^ 20 := by
    rw [aP_flat, List.length_map]
    exact sq_lt n hn (aP_len n P n)
  have b : bltV .sum [.lst (((List.range n).map fun t => ptD (rowP n P t)).map D.lst), .lst []] = some (ptO (aP n P n)) := by
    have ne : ((List.range n).map fun t => ptD (rowP n P t)) ≠ [] := by
      intro z
      have := congrArg List.length z
      simp at this
      omega
    show (lists? _).bind _ = _
    rw [lists_map, Option.bind_some, if_pos ⟨ne, rfl, lenOk_of lf⟩, aP_flat, List.nil_append]
  rw [at__law_all_pairs, run_eq (h := rfl)]
  show RF.finish [false, false] (evalSs (cc (k + 1)) Wf (.cons _ (.cons (.ret _) .nil)) (e none none none)) = _
  rw [nxt s1, nxr (ret_ok (by intro i z; cases z) (blv_ok v b))]
  rfl
/-! ### the case's slots -/
abbrev C (s : List Int) (i n : Nat) (G o4 o5 o6 o7 o8 o11 o12 o14 o15 o16 o17 o20 o22 o23 : Option O) : RF.Env :=
  [some (.z (.scr s)), some (zi i), G, some (zi n), o4, o5, o6, o7, o8, none, none, o11, o12, none, o14, o15, o16, o17, none, none, o20, none, o22, o23]
abbrev N0 : Option O := none
abbrev ff1 : Ss := .cons (.ret (.tt false)) .nil
structure Cs (n : Nat) (P : Ps) : Prop where
  o : Ord n P
  h1 : 1 ≤ n
  h8 : n ≤ 8
  hl : P.length ≤ 144
section
variable {n : Nat} {P : Ps} (c : Cs n P) (s : List Int) (i : Nat) (G : Option O)
include c
theorem Cs.h12 : n ≤ 12 := by have := c.h8; omega
theorem Cs.hP : P.length < 900 := by have := c.hl; omega
abbrev S4 : RF.S := .asg [5, 6, 7] (.tup (.cons (.blt .repr (.cons (.v 4) .nil)) (.cons (.call true f__law_before (.cons (.v 3) (.cons (.v 4) .nil))) (.cons (.call true f__law_all_pairs (.cons (.v 3) (.cons (.v 4) .nil))) .nil))))
theorem Cs.small : smallP P := fun p hp => by
  have := c.o.lt p hp
  have := c.h8
  omega
theorem Cs.repr {C : Cfg} {e : RF.Env} {j : Nat} (h : getE e j = some (ptO P)) : evalE C (.blt .repr (.cons (.v j) .nil)) e = .ok (.z (.str (pD P).py.shown)) e := by
  refine blv_ok (vs_pt h) ?_
  show (if reprOk (pD P) = true then _ else _) = _
  rw [if_pos (repr_okP c.small c.hl).1]
theorem Cs.s4 : evalS (cc 19) Wf S4 (C s i n G (some (ptO P)) none none none none none none none none none none none none none) = .nx (C s i n G (some (ptO P)) (some (.z (.str (pD P).py.shown))) (some (mat n (B n P))) (some (ptO (aP n P n))) none none none none none none none none none none) := by
  have hn : n < 1000 := by have := c.h8; omega
  let e : RF.Env := C s i n G (some (ptO P)) none none none none none none none none none none none none none
  have ar : evalArgs (cc 19) (.cons (.v 3) (.cons (.v 4) .nil)) [false, false] e = .ok ([.int n, pD P].map .val) (C s i n G (some (.z (pD P))) none none none none none none none none none none none none none) := arg_c (ev_v (i := 3) rfl) (arg_c (ev_vpt (i := 4) rfl) arg_0)
  have x2 : evalE (cc 19) (.call true f__law_before (.cons (.v 3) (.cons (.v 4) .nil))) e = .ok (mat n (B n P)) e := rtn [.int n, pD P] (sg__law_before _) ar (c.o.before n 18 hn) (clean_mat n _)
  have x3 : evalE (cc 19) (.call true f__law_all_pairs (.cons (.v 3) (.cons (.v 4) .nil))) e = .ok (ptO (aP n P n)) e := rtn [.int n, pD P] (sg__law_all_pairs _) ar (lpairs_eq c.o c.h1 hn 17) (clean_pt _)
  have t := tupT3 (c.repr (C := cc 19) (e := e) (j := 4) rfl) x2 x3 rfl
  rw [evalS, t]
  rfl
abbrev cx5 : RF.X := .comp (.v 10) (.nm 10) (.rng1 (.v 3)) (.some (.and (.cons (.ix2 6 (.ix (.v 9) (.n 0)) (.v 10)) (.cons (.ix2 6 (.v 10) (.ix (.v 9) (.n 1))) .nil)))) [10]
abbrev S5 : RF.S := .set 8 (.comp (.v 9) (.nm 9) (.seq (.v 7)) (.some (.cmp .eq cx5 (.lst .nil))) [9])
theorem Cs.s5 (K : Option O) : evalS (cc 19) Wf S5 (C s i n G (some (ptO P)) K (some (mat n (B n P))) (some (ptO (aP n P n))) none none none none none none none none none none) = .nx (C s i n G (some (ptO P)) K (some (mat n (B n P))) (some (ptO (aP n P n))) (some (ptO (plP n P))) none none none none none none none none none) := by
  have hn : n < 1000 := by have := c.h8; omega
  let e (a : Option O) (x y : Option O) : RF.Env := [some (.z (.scr s)), some (zi i), G, some (zi n), some (ptO P), K, some (mat n (B n P)), a, none, x, y, none, none, none, none, none, none, none, none, none, none, none, none, none]
  let A : Option O := some (.z (pD (aP n P n)))
  have q := ev_comp (C := cc 19) (elt := .v 9) (t := .nm 9) (it := .seq (.v 7)) (cd := .some (.cmp .eq cx5 (.lst .nil))) (own := [9]) (env := e (some (ptO (aP n P n))) none none) (env1 := e A none none) (aP n P n) (fun p => tp p.1 p.2) (fun p => plB n P p) (fun p => .z (tp p.1 p.2))
    (it_seq (ev_vpt (i := 7) rfl) rfl) (fun p hp => ⟨e A (some (.z (tp p.1 p.2))) none, rfl, by
      have hp := aP_mem.mp hp
      rw [evalCond]
      have q : evalE (cc 19) cx5 (e A (some (.z (tp p.1 p.2))) none) = .ok (on ((List.range n).filter fun k => B n P p.1 k && B n P k p.2)) (e A (some (.z (tp p.1 p.2))) none) :=
        ev_comp (List.range n) (fun (j : Nat) => D.int j) (fun k => B n P p.1 k && B n P k p.2) (fun (k : Nat) => zi k) (it_rngN (by omega) (ev_v rfl)) (fun k hk => ⟨e A (some (.z (tp p.1 p.2))) (some (zi k)), rfl, by
          rw [evalCond]
          exact and2_ok (ix2_ok (i := 6) (F := B n P) rfl (ix_tup (j := 0) rfl ev_n rfl) (ev_v rfl) hp.1 (List.mem_range.mp hk)) (ix2_ok (i := 6) (F := B n P) rfl (ev_v rfl) (ix_tup (j := 1) rfl ev_n rfl) (List.mem_range.mp hk) hp.2.1), fun _ => ev_v rfl, rfl⟩) (by rw [List.length_range]; omega) rfl (fun _ _ _ => rfl)
      have z := eq_ok' (by intro i z; cases z) q on_ok
      rw [List.isEmpty_map] at z
      exact z, fun _ => ev_v rfl, rfl⟩) (by
      have := aP_len n P n
      have := sq_lt n hn this
      omega) rfl (fun _ _ _ => rfl)
  have q' : evalE (cc 19) (.comp (.v 9) (.nm 9) (.seq (.v 7)) (.some (.cmp .eq cx5 (.lst .nil))) [9]) (e (some (ptO (aP n P n))) none none) = .ok (ptO (plP n P)) (e (some (ptO (aP n P n))) none none) := by
    have e5 := ptO_map (plP n P)
    rw [e5]; exact q
  exact set_ok q'
/-! ### due, told -/
abbrev uO (n : Nat) (P : Ps) : O := srtO ((lawU n P).map ipl)
abbrev uD (n : Nat) (P : Ps) : D := .lst ((RX.sortL ((lawU n P).map ipl)).map ilD)
omit c in
theorem toD_u (n : Nat) (P : Ps) : (uO n P).toD = uD n P := toD_lz _
abbrev dueO (n : Nat) (P : Ps) : List O := [.z (pD (aP n P n)), .z (pD (plP n P)), uO n P, on (runL n P n)]
abbrev toldO (n : Nat) (P : Ps) : List O := [ptO (aP n P n), ptO (plP n P), uO n P, on (runL n P n)]
abbrev tD (n : Nat) (P : Ps) : List D := [pD (aP n P n), pD (plP n P), uD n P, nD (runL n P n)]
omit c in
theorem due_toDs : O.toDs (dueO n P) = tD n P := by
  simp only [O.toDs]
  rw [toD_u, toD_on]
  rfl
omit c in
theorem told_toDs : O.toDs (toldO n P) = tD n P := by
  simp only [O.toDs]
  rw [toD_u, toD_on, toD_pt, toD_pt]
abbrev callU : RF.X := .call true f__law_uppers (.cons (.v 3) (.cons (.v 4) .nil))
abbrev S6 : RF.S := .set 11 (.lst (.cons (.v 7) (.cons (.v 8) (.cons (.blt .sorted (.cons callU .nil)) (.cons (.call true f__law_in_a_row (.cons (.v 3) (.cons (.v 4) .nil))) .nil)))))
abbrev F4 (P : Ps) : Option O := some (.z (pD P))
theorem Cs.s6 (K M : Option O) : evalS (cc 19) Wf S6 (C s i n G (some (ptO P)) K M (some (ptO (aP n P n))) (some (ptO (plP n P))) none none none none none none none none none) = .nx (C s i n G (F4 P) K M (F4 (aP n P n)) (F4 (plP n P)) (some (.l [.z (pD (aP n P n)), .z (pD (plP n P)), uO n P, on (runL n P n)])) none none none none none none none none) := by
  have hn : n < 1000 := by have := c.h8; omega
  have cl : (O.l ((lawU n P).map fun l => O.z (nD l))).clean = false := by
    have ne := lawU_ne (n := n) (P := P)
    cases q : lawU n P with
    | nil => rw [q] at ne; exact absurd rfl ne
    | cons x xs => simp [O.clean, O.cleans, D.lf]
  have ar : evalArgs (cc 19) (.cons (.v 3) (.cons (.v 4) .nil)) [false, false] (C s i n G (some (ptO P)) K M (F4 (aP n P n)) (F4 (plP n P)) none none none none none none none none none) = .ok ([.int n, pD P].map .val) (C s i n G (F4 P) K M (F4 (aP n P n)) (F4 (plP n P)) none none none none none none none none none) := arg_c (ev_v (i := 3) rfl) (arg_c (ev_vpt (i := 4) rfl) arg_0)
  have u := rtd [.int n, pD P] (sg__law_uppers 19) ar (luppers_eq n P c.h12 18 c.hP) cl
  have ud : (O.l ((lawU n P).map fun l => O.z (nD l))).toD = .lst (((lawU n P).map ipl).map ilD) := by
    simp only [O.toD]
    rw [O.toDs_map, List.map_map, List.map_map]
    refine congrArg D.lst (List.map_congr_left fun l _ => ?_)
    exact nD_il l
  have x3 : evalE (cc 19) (.blt .sorted (.cons callU .nil)) (C s i n G (some (ptO P)) K M (F4 (aP n P n)) (F4 (plP n P)) none none none none none none none none none) = .ok (uO n P) (C s i n G (F4 P) K M (F4 (aP n P n)) (F4 (plP n P)) none none none none none none none none none) := by
    have v : evalVs (cc 19) (.cons callU .nil) (C s i n G (some (ptO P)) K M (F4 (aP n P n)) (F4 (plP n P)) none none none none none none none none none) = .ok [.lst (((lawU n P).map ipl).map ilD)] (C s i n G (F4 P) K M (F4 (aP n P n)) (F4 (plP n P)) none none none none none none none none none) := by
      rw [evalVs, view_nv (by intro i z; cases z), u]
      simp only [RF.R.bind_ok, ud]
      rw [evalVs]
      rfl
    rw [evalE, v]
    simp only [RF.R.bind_ok]
    rw [sortLL lawU_ne]
    rfl
  have x4 : evalE (cc 19) (.call true f__law_in_a_row (.cons (.v 3) (.cons (.v 4) .nil))) (C s i n G (F4 P) K M (F4 (aP n P n)) (F4 (plP n P)) none none none none none none none none none) = .ok (on (runL n P n)) (C s i n G (F4 P) K M (F4 (aP n P n)) (F4 (plP n P)) none none none none none none none none none) := rt2 (lrow_eq n P hn 17 c.o) (sg__law_in_a_row _) rfl rfl (clean_on _)
  have y1 : evalE (cc 19) (.v 7) (C s i n G (some (ptO P)) K M (some (ptO (aP n P n))) (some (ptO (plP n P))) none none none none none none none none none) = .ok (.z (pD (aP n P n))) (C s i n G (some (ptO P)) K M (F4 (aP n P n)) (some (ptO (plP n P))) none none none none none none none none none) := ev_vpt (i := 7) rfl
  have y2 : evalE (cc 19) (.v 8) (C s i n G (some (ptO P)) K M (F4 (aP n P n)) (some (ptO (plP n P))) none none none none none none none none none) = .ok (.z (pD (plP n P))) (C s i n G (some (ptO P)) K M (F4 (aP n P n)) (F4 (plP n P)) none none none none none none none none none) := ev_vpt (i := 8) rfl
  generalize uO n P = U at x3 ⊢
  generalize on (runL n P n) = Rn at x4 ⊢
  exact set_ok (lst_e (es_e y1 (es_e y2 (es_e x3 (es_e x4 es_0)))))
abbrev S7 : RF.S := .set 12 (.lst (.cons (.call true f_all_pairs (.cons (.v 3) (.cons (.v 4) .nil))) (.cons (.call true f_plain_pairs (.cons (.v 3) (.cons (.v 4) .nil))) (.cons (.call true f_upper_lots (.cons (.v 3) (.cons (.v 4) .nil))) (.cons (.call true f_in_a_row (.cons (.v 3) (.cons (.v 4) .nil))) .nil)))))
theorem Cs.s7 (K M A Q D : Option O) : evalS (cc 19) Wf S7 (C s i n G (F4 P) K M A Q D none none none none none none none none) = .nx (C s i n G (F4 P) K M A Q D (some (.l (toldO n P))) none none none none none none none) := by
  have t1 := t_all c.o c.h1 c.h12 c.hP 11
  have t2 := t_plain c.o c.h1 c.h12 c.hP 11
  have t3 := t_upper c.o c.h1 c.h12 c.hP 11
  have t4 := t_row c.o c.h1 c.h12 c.hP 11
  have c1 := clean_pt (aP n P n)
  have c2 := clean_pt (plP n P)
  have c4 := clean_on (runL n P n)
  exact set_ok (lst_ok (es_c (rt2 t1 (sg_all_pairs _) rfl rfl c1) (es_c (rt2 t2 (sg_plain_pairs _) rfl rfl c2) (es_c (rtv [.int n, pD P] (sg_upper_lots _) (args2 rfl rfl) t3) (es_c (rt2 t4 (sg_in_a_row _) rfl rfl c4) es_0)))))
theorem Cs.gd : Gd 4 (.lst (tD n P)) := by
  have h8 := c.h8
  have al := aP_len n P n
  have nn : n * n ≤ 8 * 8 := Nat.mul_le_mul h8 h8
  have pl : (plP n P).length ≤ (aP n P n).length := List.length_filter_le _ _
  have ul : (RX.sortL ((lawU n P).map ipl)).length ≤ 256 := by
    rw [(RX.sortL_perm _).length_eq, List.length_map]
    have := List.length_filter_le (fun l => clP P l) (subs n)
    rw [subs_len] at this
    have := Nat.pow_le_pow_right (show 0 < 2 by decide) h8
    unfold lawU
    omega
  have rl := (c.o.run n (Nat.le_refl n)).len
  have g1 : Gd 3 (pD (aP n P n)) := (gd_pD (by omega)).mono (by decide)
  have g2 : Gd 3 (pD (plP n P)) := (gd_pD (by omega)).mono (by decide)
  have g4 : Gd 3 (nD (runL n P n)) := (gd_nD (by omega)).mono (by decide)
  have g3 : Gd 3 (uD n P) := by
    simp only [Gd]
    refine ⟨by rw [List.length_map]; omega, fun d hd => ?_⟩
    obtain ⟨x, hx, rfl⟩ := List.mem_map.mp hd
    obtain ⟨l, hl, rfl⟩ := List.mem_map.mp ((RX.sortL_perm _).mem_iff.mp hx)
    obtain ⟨m1, m2⟩ := mem_subs.mp (List.mem_filter.mp hl).1
    have := nd_le (ys := List.range n) (m1.imp fun z => by omega) fun x hx => List.mem_range.mpr (m2 x hx)
    rw [List.length_range] at this
    exact (gd_li (xs := ipl l) (by rw [ipl, List.length_map]; omega)).mono (by decide)
  simp only [Gd]
  refine ⟨by simp, fun d hd => ?_⟩
  simp only [List.mem_cons, List.not_mem_nil, or_false] at hd
  rcases hd with rfl | rfl | rfl | rfl
  · exact g1
  · exact g2
  · exact g3
  · exact g4
abbrev S8 : RF.S := .ite (.not (.call true f__law_same (.cons (.v 12) (.cons (.v 11) .nil)))) ff1 .nil
theorem Cs.s8 (K M A Q : Option O) : evalS (cc 19) Wf S8 (C s i n G (F4 P) K M A Q (some (.l (dueO n P))) (some (.l (toldO n P))) none none none none none none none) = .nx (C s i n G (F4 P) K M A Q (some (.l (dueO n P))) (some (.l (toldO n P))) none none none none none none none) := by
  have sm := same_self 4 14 c.gd (by decide)
  have d1 : (frz (.l (dueO n P))).toD = .lst (tD n P) := by show D.lst (O.toDs (dueO n P)) = _; rw [due_toDs]
  have d2 : (frz (.l (toldO n P))).toD = .lst (tD n P) := by show D.lst (O.toDs (toldO n P)) = _; rw [told_toDs]
  have a := arg_c (C := cc 19) (ev_vz (C := cc 19) (e := C s i n G (F4 P) K M A Q (some (.l (dueO n P))) (some (.l (toldO n P))) none none none none none none none) (i := 12) (o := .l (toldO n P)) rfl) (arg_c (ev_vz (i := 11) (o := .l (dueO n P)) rfl) arg_0)
  rw [d1, d2] at a
  exact ite_ff (not_ok (b := true) (rtn [.lst (tD n P), .lst (tD n P)] (sg__law_same 19) a sm rfl))
theorem Cs.s9 (K M A Q : Option O) (D : Option O) : evalS (cc 19) Wf (.each 12 13 0) (C s i n G (F4 P) K M A Q D (some (.l (toldO n P))) none none none none none none none) = .nx (C s i n G (F4 P) K M A Q D none none none none none none none none) := by
  have h8 := c.h8
  have al := aP_len n P n
  have nn : n * n ≤ 8 * 8 := Nat.mul_le_mul h8 h8
  have pl : (plP n P).length ≤ (aP n P n).length := List.length_filter_le _ _
  have gd := c.gd
  simp only [Gd] at gd
  have gu := gd.2 (uD n P) (by simp)
  simp only [Gd] at gu
  have rl := (c.o.run n (Nat.le_refl n)).len
  have e1 : (ptO (aP n P n)).isLs = true := lenOk_of (by rw [List.length_map, List.length_map]; omega)
  have e2 : (ptO (plP n P)).isLs = true := lenOk_of (by rw [List.length_map, List.length_map]; omega)
  have e3 : (uO n P).isLs = true := lenOk_of (by rw [List.length_map]; omega)
  have e4 : (on (runL n P n)).isLs = true := lenOk_of (by rw [List.length_map]; omega)
  rw [evalS]
  simp only [show getE (C s i n G (F4 P) K M A Q D (some (.l (toldO n P))) none none none none none none none) 12 = some (.l (toldO n P)) from rfl]
  rw [if_pos (by simp only [List.all_cons, List.all_nil, e1, e2, e3, e4]; rfl)]
  rfl
abbrev S10 : RF.S := .ite (.not (.call true f__law_same (.cons (.lst (.cons (.callk f_all_pairs .nil (.cons (.v 4) (.cons (.v 3) .nil)) [1, 0]) (.cons (.callk f_plain_pairs .nil (.cons (.v 4) (.cons (.v 3) .nil)) [1, 0]) (.cons (.callk f_upper_lots .nil (.cons (.v 4) (.cons (.v 3) .nil)) [1, 0]) (.cons (.callk f_in_a_row .nil (.cons (.v 4) (.cons (.v 3) .nil)) [1, 0]) .nil))))) (.cons (.v 11) .nil)))) ff1 .nil
theorem Cs.s10 (K M A Q : Option O) : evalS (cc 19) Wf S10 (C s i n G (F4 P) K M A Q (some (.l (dueO n P))) none none none none none none none none) = .nx (C s i n G (F4 P) K M A Q (some (.l (dueO n P))) none none none none none none none none) := by
  have sm := same_self 4 14 c.gd (by decide)
  let e : RF.Env := C s i n G (F4 P) K M A Q (some (.l (dueO n P))) none none none none none none none none
  have t1 := t_all c.o c.h1 c.h12 c.hP 11
  have t2 := t_plain c.o c.h1 c.h12 c.hP 11
  have t3 := t_upper c.o c.h1 c.h12 c.hP 11
  have t4 := t_row c.o c.h1 c.h12 c.hP 11
  have ks : evalEs (cc 19) (.cons (.v 4) (.cons (.v 3) .nil)) e = .ok [.z (pD P), zi n] e := es_c (ev_v rfl) (es_c (ev_v rfl) es_0)
  have ck : ∀ (f : Nat) (v : O), (cc 19).sig f = [false, false] → g 19 f [zi n, .z (pD P)] = ret v → evalE (cc 19) (.callk f .nil (.cons (.v 4) (.cons (.v 3) .nil)) [1, 0]) e = .ok v e := fun f v hs hg => callk (ds := [.int n, pD P]) ks rfl hs hg
  have x := lst_ok (es_c (ck f_all_pairs _ (sg_all_pairs _) t1) (es_c (ck f_plain_pairs _ (sg_plain_pairs _) t2) (es_c (ck f_upper_lots _ (sg_upper_lots _) t3) (es_c (ck f_in_a_row _ (sg_in_a_row _) t4) es_0))))
  have d1 : (frz (.l (dueO n P))).toD = .lst (tD n P) := by show D.lst (O.toDs (dueO n P)) = _; rw [due_toDs]
  have d2 : (O.l (toldO n P)).toD = .lst (tD n P) := by show D.lst (O.toDs (toldO n P)) = _; rw [told_toDs]
  have a := arg_c (C := cc 19) x (arg_c (ev_vz (i := 11) (o := .l (dueO n P)) rfl) arg_0)
  rw [d1, d2] at a
  exact ite_ff (not_ok (b := true) (rtn [.lst (tD n P), .lst (tD n P)] (sg__law_same 19) a sm rfl))
end
end K03
/-! K03o: the case, second part: things, lots, answers. -/
namespace K03
open RF MX
theorem callkc {m f : Nat} {ks : Xs} {pm : List Nat} {us : List O} {ds : List D} {o : O} {e e1 : RF.Env} (hk : evalEs (cc m) ks e = .ok us e1) (hp : permA [] us pm = ds.map .val) (hs : (cc m).sig f = List.replicate ds.length false) (hc : g m f (ds.map .z) = ret o) (cl : o.clean = true) : evalE (cc m) (.callk f .nil ks pm) e = .ok o e := by
  rw [evalE, es_0]
  simp only [RF.R.bind_ok, hk, hp]
  rw [do_val ds hs]
  show back0 true e e1 (g m f (ds.map .z)) = _
  rw [hc]
  simp [ret, back0, cl]
section
variable {n : Nat} {P : Ps} (c : Cs n P) (s : List Int) (i : Nat) (K A Q Du : Option O)
include c
abbrev S11 : RF.S := .par [14, 15] (.cons (.call false f__law_random (.cons (.v 2) (.cons (.v 3) .nil))) (.cons (.call false f__law_random (.cons (.v 2) (.cons (.v 3) .nil))) .nil))
theorem Cs.s11 (M : Option O) {k : Nat} {o : O} (ho : Gn k o) (hk : k < 400000) : ∃ (a b : Nat) (o' : O), a < n ∧ b < n ∧ evalS (cc 19) Wf S11 (C s i n (some o) (F4 P) K M A Q Du none none none none none none none none) = .nx (C s i n (some o') (F4 P) K M A Q Du none (some (zi a)) (some (zi b)) none none none none none) ∧ Gn (k + 20) o' := by
  have h1 := c.h1
  have h8 := c.h8
  obtain ⟨r1, o1, a1, a2, a3, a4⟩ := rnd_in (n := 17) (k := k) (i := 2) (E := .v 3) (env := C s i n (some o) (F4 P) K M A Q Du none none none none none none none none) (x := (n : Int)) rfl ho (by omega) (by omega) (sm_nat (by omega)) (ev_v rfl)
  obtain ⟨r2, o2, b1, b2, b3, b4⟩ := rnd_in (n := 17) (k := k + 10) (i := 2) (E := .v 3) (env := C s i n (some o1) (F4 P) K M A Q Du none none none none none none none none) (x := (n : Int)) rfl a4 (by omega) (by omega) (sm_nat (by omega)) (ev_v rfl)
  refine ⟨r1.toNat, r2.toNat, o2, by omega, by omega, ?_, b4⟩
  rw [show ((r1.toNat : Nat) : Int) = r1 by omega, show ((r2.toNat : Nat) : Int) = r2 by omega]
  rw [evalS, es_e a1 (es_e b1 es_0)]
  rfl
abbrev cD12 : RF.X := .call false f__law_drawn_order (.cons (.v 2) (.cons (.lrange (.rng1 (.v 3))) .nil))
abbrev cR12 : RF.X := .call false f__law_random (.cons (.v 2) (.cons (.bin .add (.v 3) (.n 1)) .nil))
abbrev S12 : RF.S := .set 16 (.blt .sorted (.cons (.sl cD12 .none (.some cR12)) .nil))
theorem Cs.s12 (M : Option O) (x y : Option O) {k : Nat} {o : O} (ho : Gn k o) (hk : k < 400000) : ∃ (L : List Nat) (o' : O), L.Pairwise (fun a b => a < b) ∧ (∀ j ∈ L, j < n) ∧ evalS (cc 19) Wf S12 (C s i n (some o) (F4 P) K M A Q Du none x y none none none none none) = .nx (C s i n (some o') (F4 P) K M A Q Du none x y (some (on L)) none none none none) ∧ Gn (k + 200) o' := by
  have h1 := c.h1
  have h8 := c.h8
  obtain ⟨T, o1, d1, d2, d3⟩ := drawn_eq 16 k o ho (List.range n) (by rw [List.length_range]; omega) (by omega)
  rw [List.length_range] at d3
  have Tl : T.length = n := by rw [d2.length_eq, List.length_range]
  have Tn : T.Nodup := d2.nodup_iff.mpr List.nodup_range
  obtain ⟨r, o2, r1, r2, r3, r4⟩ := rnd_in (n := 17) (k := k + 10 * n) (i := 2) (E := .bin .add (.v 3) (.n 1)) (env := C s i n (some o1) (F4 P) K M A Q Du none x y none none none none none) (x := (n : Int) + 1) rfl d3 (by omega) (by omega) ((show Sm 10 ((n : Int) + 1) by unfold Sm; omega).mono (by decide)) (add_ok (x := (n : Int)) (y := 1) (ev_v rfl) ev_n)
  obtain ⟨j, rfl⟩ : ∃ j : Nat, r = j := ⟨r.toNat, by omega⟩
  obtain ⟨a0, b0, c0, rfl, _⟩ := ho.ex
  obtain ⟨a1, b1, c1, rfl, _⟩ := d3.ex
  have lr : evalE (cc 19) (.lrange (.rng1 (.v 3))) (C s i n (some (.l [zi a0, zi b0, zi c0])) (F4 P) K M A Q Du none x y none none none none none) = .ok (.l (((List.range n).map fun (j : Nat) => D.int j).map .z)) (C s i n (some (.l [zi a0, zi b0, zi c0])) (F4 P) K M A Q Du none x y none none none none none) := by
    rw [evalE, it_rngN (k := n) (by omega) (ev_v rfl)]
    simp only [RF.R.bind_ok, lenOk_of (show ((List.range n).map fun (j : Nat) => D.int j).length < 2 ^ 20 by rw [List.length_map, List.length_range]; omega), if_true]
  have dc : evalE (cc 19) cD12 (C s i n (some (.l [zi a0, zi b0, zi c0])) (F4 P) K M A Q Du none x y none none none none none) = .ok (on T) (C s i n (some (.l [zi a1, zi b1, zi c1])) (F4 P) K M A Q Du none x y none none none none none) := call_ref (sg__law_drawn_order _) rfl lr (by rw [toD_lz]; exact d1)
  have sl : evalE (cc 19) (.sl cD12 .none (.some cR12)) (C s i n (some (.l [zi a0, zi b0, zi c0])) (F4 P) K M A Q Du none x y none none none none none) = .ok (on (T.take j)) (C s i n (some o2) (F4 P) K M A Q Du none x y none none none none none) := by
    have p : ∀ e : RF.Env, evalPart (cc 19) .none e = .ok none e := fun e => by rw [evalPart]
    have q : evalPart (cc 19) (.some cR12) (C s i n (some (.l [zi a1, zi b1, zi c1])) (F4 P) K M A Q Du none x y none none none none none) = .ok (some (j : Int)) (C s i n (some o2) (F4 P) K M A Q Du none x y none none none none none) := by
      rw [evalPart, r1]; rfl
    rw [evalE, view_nv (by intro i z; cases z), dc]
    simp only [RF.R.bind_ok, p, q, toD_on]
    rw [cut_take _ j (by rw [List.length_map]; omega), ← List.map_take, List.map_map]
    rfl
  obtain ⟨L, l1, l2, l3⟩ := sort_lot (l := T.take j) (List.Nodup.sublist (List.take_sublist j T) Tn)
  have st : evalE (cc 19) (.blt .sorted (.cons (.sl cD12 .none (.some cR12)) .nil)) (C s i n (some (.l [zi a0, zi b0, zi c0])) (F4 P) K M A Q Du none x y none none none none none) = .ok (on L) (C s i n (some o2) (F4 P) K M A Q Du none x y none none none none none) := by
    have v : evalVs (cc 19) (.cons (.sl cD12 .none (.some cR12)) .nil) (C s i n (some (.l [zi a0, zi b0, zi c0])) (F4 P) K M A Q Du none x y none none none none none) = .ok [nD (T.take j)] (C s i n (some o2) (F4 P) K M A Q Du none x y none none none none none) := by
      rw [evalVs, view_nv (by intro i z; cases z), sl]
      simp only [RF.R.bind_ok, toD_on]
      rw [evalVs]
      rfl
    rw [evalE, v]
    simp only [RF.R.bind_ok]
    rw [sortN, l3, ipl, List.map_map, List.map_map]
    rfl
  refine ⟨L, o2, l1, fun x hx => ?_, set_ok st, r4.mono (by omega)⟩
  have := List.mem_of_mem_take ((l2 x).mp hx)
  exact List.mem_range.mp (d2.mem_iff.mp this)
abbrev cx13 : RF.X := .comp (.v 19) (.nm 19) (.seq (.v 16)) (.some (.ix2 6 (.v 19) (.v 18))) [19]
abbrev S13 : RF.S := .set 17 (.comp (.v 18) (.nm 18) (.rng1 (.v 3)) (.some (.or (.cons (.cmp .mem (.v 18) (.v 16)) (.cons (.cmp .ne cx13 (.lst .nil)) .nil)))) [18])
theorem Cs.s13 (G x y : Option O) {L : List Nat} (hup : L.Pairwise fun a b => a < b) (hlt : ∀ j ∈ L, j < n) : evalS (cc 19) Wf S13 (C s i n G (F4 P) K (some (mat n (B n P))) A Q Du none x y (some (on L)) none none none none) = .nx (C s i n G (F4 P) K (some (mat n (B n P))) A Q Du none x y (some (on L)) (some (on (clsL n P L))) none none none) := by
  have h8 := c.h8
  have ll := nd_le (ys := List.range n) (hup.imp fun z => by omega) fun x hx => List.mem_range.mpr (hlt x hx)
  rw [List.length_range] at ll
  let e (w t l : Option O) : RF.Env := [some (.z (.scr s)), some (zi i), G, some (zi n), F4 P, K, some (mat n (B n P)), A, Q, none, none, Du, none, none, x, y, w, none, t, l, none, none, none, none]
  have q : evalE (cc 19) (.comp (.v 18) (.nm 18) (.rng1 (.v 3)) (.some (.or (.cons (.cmp .mem (.v 18) (.v 16)) (.cons (.cmp .ne cx13 (.lst .nil)) .nil)))) [18]) (e (some (on L)) none none) = .ok (on (clsL n P L)) (e (some (on L)) none none) :=
    ev_comp (List.range n) (fun (j : Nat) => D.int j) (fun t => clsB n P L t) (fun (j : Nat) => zi j) (it_rngN (by omega) (ev_v rfl)) (fun t ht => ⟨e (some (on L)) (some (zi t)) none, rfl, by
      have ht := List.mem_range.mp ht
      rw [evalCond]
      have q : evalE (cc 19) cx13 (e (some (on L)) (some (zi t)) none) = .ok (on (L.filter fun x => B n P x t)) (e (some (on L)) (some (zi t)) none) :=
        ev_comp (env1 := e (some (frz (on L))) (some (zi t)) none) L (fun (j : Nat) => D.int j) (fun x => B n P x t) (fun (j : Nat) => zi j) (it_seq (ev_vz (i := 16) (o := on L) rfl) (toD_on L)) (fun x hx => ⟨e (some (frz (on L))) (some (zi t)) (some (zi x)), rfl, by rw [evalCond]; exact ix2_ok (i := 6) (F := B n P) rfl (ev_v rfl) (ev_v rfl) (hlt x hx) ht, fun _ => ev_v rfl, rfl⟩) (by omega) rfl (fun _ _ _ => rfl)
      have z := ne_ok' (by intro i z; cases z) q on_ok
      rw [List.isEmpty_map] at z
      exact or2_ok (SeeN.mem (SeeN.l rfl) (ev_v rfl)) z, fun _ => ev_v rfl, rfl⟩) (by rw [List.length_range]; omega) rfl (fun _ _ _ => rfl)
  exact set_ok q
abbrev kS : RF.X := .callk f_stands_before .nil (.cons (.v 15) (.cons (.v 14) (.cons (.v 4) (.cons (.v 3) .nil)))) [3, 2, 1, 0]
abbrev S14 : RF.S := .set 20 (.lst (.cons (.call true f_stands_before (.cons (.v 3) (.cons (.v 4) (.cons (.v 14) (.cons (.v 15) .nil))))) (.cons kS (.cons (.call true f_closed_up (.cons (.v 3) (.cons (.v 4) (.cons (.v 16) .nil)))) .nil))))
abbrev an3 (n : Nat) (P : Ps) (a b : Nat) (L : List Nat) : List O := [zb (B n P a b), zb (B n P a b), on (clsL n P L)]
theorem Cs.s14 (G M : Option O) {a b : Nat} (ha : a < n) (hb : b < n) {L : List Nat} (hup : L.Pairwise fun a b => a < b) (hlt : ∀ j ∈ L, j < n) : evalS (cc 19) Wf S14 (C s i n G (F4 P) K M A Q Du none (some (zi a)) (some (zi b)) (some (on L)) (some (on (clsL n P L))) none none none) = .nx (C s i n G (F4 P) K M A Q Du none (some (zi a)) (some (zi b)) (some (on L)) (some (on (clsL n P L))) (some (.l (an3 n P a b L))) none none) := by
  let e : RF.Env := C s i n G (F4 P) K M A Q Du none (some (zi a)) (some (zi b)) (some (on L)) (some (on (clsL n P L))) none none none
  have t := t_stands c.o c.h1 c.h12 c.hP 11 ha hb
  have u := t_closed c.o c.h1 c.h12 c.hP 11 hup hlt
  have x1 : evalE (cc 19) (.call true f_stands_before (.cons (.v 3) (.cons (.v 4) (.cons (.v 14) (.cons (.v 15) .nil))))) e = .ok (zb (B n P a b)) e := rtn [.int n, pD P, .int a, .int b] (sg_stands_before _) (arg_c (ev_v rfl) (arg_c (ev_v rfl) (arg_c (ev_v rfl) (arg_c (ev_v rfl) arg_0)))) t rfl
  have x2 : evalE (cc 19) kS e = .ok (zb (B n P a b)) e := callk (ds := [.int n, pD P, .int a, .int b]) (es_c (ev_v rfl) (es_c (ev_v rfl) (es_c (ev_v rfl) (es_c (ev_v rfl) es_0)))) rfl (sg_stands_before _) t
  have ar := arg_c (ev_v (C := cc 19) (e := e) (i := 3) (d := .int n) rfl) (arg_c (ev_v (i := 4) (d := pD P) rfl) (arg_c (ev_vz (i := 16) (o := on L) rfl) arg_0))
  rw [show (frz (on L)).toD = nD L from toD_on L] at ar
  have x3 : evalE (cc 19) (.call true f_closed_up (.cons (.v 3) (.cons (.v 4) (.cons (.v 16) .nil)))) e = .ok (on (clsL n P L)) e := rtn [.int n, pD P, nD L] (sg_closed_up _) ar u (clean_on _)
  exact set_ok (lst_ok (es_c x1 (es_c x2 (es_c x3 es_0))))
abbrev kC : RF.X := .callk f_closed_up .nil (.cons (.v 16) (.cons (.v 4) (.cons (.v 3) .nil))) [2, 1, 0]
abbrev S15 : RF.S := .set 20 (.bin .add (.v 20) (.lst (.cons kC .nil)))
abbrev anD (n : Nat) (P : Ps) (a b : Nat) (L : List Nat) : List RF.D := [.bl (B n P a b), .bl (B n P a b), nD (clsL n P L), nD (clsL n P L)]
theorem Cs.s15 (G M : Option O) {a b : Nat} (o17 : Option O) {L : List Nat} (hup : L.Pairwise fun a b => a < b) (hlt : ∀ j ∈ L, j < n) : evalS (cc 19) Wf S15 (C s i n G (F4 P) K M A Q Du none (some (zi a)) (some (zi b)) (some (on L)) o17 (some (.l (an3 n P a b L))) none none) = .nx (C s i n G (F4 P) K M A Q Du none (some (zi a)) (some (zi b)) (some (on L)) o17 (some (.l ((anD n P a b L).map .z))) none none) := by
  have u := t_closed c.o c.h1 c.h12 c.hP 11 hup hlt
  have cl := clean_on (clsL n P L)
  have td : O.toDs (an3 n P a b L) = [.bl (B n P a b), .bl (B n P a b), nD (clsL n P L)] := by
    simp only [O.toDs, O.toD]
    have := toD_on (clsL n P L)
    simp only [O.toD] at this
    rw [this]
  exact grow2 (C := cc 19) (Wx := Wf) (i := 20) (x := .lst (.cons kC .nil)) (e := C s i n G (F4 P) K M A Q Du none (some (zi a)) (some (zi b)) (some (on L)) o17 (some (.l (an3 n P a b L))) none none) (os := an3 n P a b L) (fs := [nD (clsL n P L)]) (o := .l [on (clsL n P L)]) rfl rfl td (fun v _ => by
    have ks : evalEs (cc 19) (.cons (.v 16) (.cons (.v 4) (.cons (.v 3) .nil))) (C s i n G (F4 P) K M A Q Du none (some (zi a)) (some (zi b)) (some (on L)) o17 (some v) none none) = .ok [frz (on L), .z (pD P), zi n] (C s i n G (F4 P) K M A Q Du none (some (zi a)) (some (zi b)) (some (frz (on L))) o17 (some v) none none) := es_e (ev_vz (i := 16) (o := on L) rfl) (es_e (ev_v rfl) (es_e (ev_v rfl) es_0))
    have pm : permA [] [frz (on L), .z (pD P), zi n] [2, 1, 0] = [.int n, pD P, nD L].map .val := by
      show [Ar.val (.int n), Ar.val (pD P), Ar.val (frz (on L)).toD] = _
      rw [show (frz (on L)).toD = nD L from toD_on L]
      rfl
    exact lst1_ok (callkc (ds := [.int n, pD P, nD L]) ks pm (sg_closed_up _) u cl)) (by
    simp only [O.toD, O.toDs]
    have := toD_on (clsL n P L)
    simp only [O.toD] at this
    rw [this]) (by simp) (by simp)
abbrev mulA : RF.X := .bin .mul (.lst (.cons (.ix2 6 (.v 14) (.v 15)) .nil)) (.n 2)
abbrev mulB : RF.X := .bin .mul (.lst (.cons (.v 17) .nil)) (.n 2)
abbrev cxR16 : RF.X := .comp (.tup (.cons (.v 21) (.cons (.bin .add (.v 21) (.n 1)) .nil))) (.nm 21) (.rng1 (.bin .sub (.v 3) (.n 1))) .none [21]
abbrev sm1 : RF.X := .call true f__law_same (.cons (.v 20) (.cons (.bin .add mulA mulB) .nil))
abbrev sm2 : RF.X := .call true f__law_same (.cons (.lst (.cons (.call true f_row_order (.cons (.v 3) .nil)) (.cons (.callk f_row_order .nil (.cons (.v 3) .nil) [0]) .nil))) (.cons (.bin .mul (.lst (.cons cxR16 .nil)) (.n 2)) .nil))
abbrev S16 : RF.S := .ite (.or (.cons (.not sm1) (.cons (.not sm2) .nil))) ff1 .nil
omit c in
theorem mul2 (d : RF.D) : binop .mul (.lst [d]) (.int 2) = some (.l ([d, d].map .z)) := rfl
omit c in
theorem toD_rw (n : Nat) : (rwO n).toD = .lst ((List.range (n - 1)).map fun (j : Nat) => tp j (j + 1)) := by
  simp only [O.toD]
  rw [O.toDs_map, List.map_map]
  rfl
theorem Cs.s16 (G : Option O) {a b : Nat} (ha : a < n) (hb : b < n) (L : List Nat) : evalS (cc 19) Wf S16 (C s i n G (F4 P) K (some (mat n (B n P))) A Q Du none (some (zi a)) (some (zi b)) (some (on L)) (some (on (clsL n P L))) (some (.l ((anD n P a b L).map .z))) none none) = .nx (C s i n G (F4 P) K (some (mat n (B n P))) A Q Du none (some (zi a)) (some (zi b)) (some (on L)) (some (on (clsL n P L))) (some (.l ((anD n P a b L).map .z))) none none) := by
  have h8 := c.h8
  have h1 := c.h1
  let e (w v : Option O) : RF.Env := C s i n G (F4 P) K (some (mat n (B n P))) A Q Du none (some (zi a)) (some (zi b)) (some (on L)) w v none none
  let W : Option O := some (on (clsL n P L))
  let V : Option O := some (.l ((anD n P a b L).map .z))
  let V2 : Option O := some (frz (.l ((anD n P a b L).map .z)))
  have cl : (clsL n P L).length ≤ n := by
    have := List.length_filter_le (fun t => clsB n P L t) (List.range n)
    rw [List.length_range] at this
    exact this
  have x1 : evalE (cc 19) mulA (e W V2) = .ok (.l ([D.bl (B n P a b), .bl (B n P a b)].map .z)) (e W V2) := bin_ok (lst1_ok (ix2_ok (i := 6) (F := B n P) rfl (ev_v rfl) (ev_v rfl) ha hb)) ev_n (mul2 _)
  have x2 : evalE (cc 19) mulB (e W V2) = .ok (.l ([nD (clsL n P L), nD (clsL n P L)].map .z)) (e (some (frz (on (clsL n P L)))) V2) := by
    have y : evalE (cc 19) (.lst (.cons (.v 17) .nil)) (e W V2) = .ok (.l [frz (on (clsL n P L))]) (e (some (frz (on (clsL n P L)))) V2) := lst_e (es_e (ev_vz (i := 17) (o := on (clsL n P L)) rfl) es_0)
    refine bin_okl (by intro i z; cases z) y ev_n ?_
    rw [show (O.l [frz (on (clsL n P L))]).toD = .lst [nD (clsL n P L)] from by
      show D.lst [(frz (on (clsL n P L))).toD] = _
      rw [show (frz (on (clsL n P L))).toD = nD (clsL n P L) from toD_on _]]
    exact mul2 _
  have x3 : evalE (cc 19) (.bin .add mulA mulB) (e W V2) = .ok (.l ((anD n P a b L).map .z)) (e (some (frz (on (clsL n P L)))) V2) := by
    refine bin_okr (by intro i z; cases z) x1 x2 ?_
    rw [toD_lz, toD_lz]
    rfl
  have ar := arg_c (C := cc 19) (ev_vz (C := cc 19) (e := e W V) (i := 20) (o := .l ((anD n P a b L).map .z)) rfl) (arg_c x3 arg_0)
  rw [show (frz (.l ((anD n P a b L).map .z))).toD = .lst (anD n P a b L) from toD_lz _, toD_lz] at ar
  have gC : Gd 1 (nD (clsL n P L)) := gd_nD (by omega)
  have gA : Gd 2 (.lst (anD n P a b L)) := by
    simp only [Gd]
    refine ⟨by simp, fun d hd => ?_⟩
    simp only [List.mem_cons, List.not_mem_nil, or_false] at hd
    rcases hd with rfl | rfl | rfl | rfl
    · trivial
    · trivial
    · exact gC
    · exact gC
  have q1 := rtn [.lst (anD n P a b L), .lst (anD n P a b L)] (sg__law_same 19) ar (same_self 2 16 gA (by decide)) rfl
  have ro := t_roworder 15 n h1 c.h12
  have rcl : (rwO n).clean = true := by
    simp only [O.clean]
    rw [O.cleans_all, List.all_eq_true]
    intro o ho
    obtain ⟨j, _, rfl⟩ := List.mem_map.mp ho
    rfl
  have y1 : evalE (cc 19) (.lst (.cons (.call true f_row_order (.cons (.v 3) .nil)) (.cons (.callk f_row_order .nil (.cons (.v 3) .nil) [0]) .nil))) (e W V) = .ok (.l [rwO n, rwO n]) (e W V) := lst_ok (es_c (rt1 ro (sg_row_order _) rfl rcl) (es_c (callk (ds := [.int n]) (es_c (ev_v rfl) es_0) rfl (sg_row_order _) ro) es_0))
  have m1 : evalE (cc 19) (.bin .sub (.v 3) (.n 1)) (e W V) = .ok (zi ((n - 1 : Nat) : Int)) (e W V) := by
    rw [sub_ok (ev_v rfl) ev_n]
    congr 3
    omega
  let e21 (x : Option O) : RF.Env := [some (.z (.scr s)), some (zi i), G, some (zi n), F4 P, K, some (mat n (B n P)), A, Q, none, none, Du, none, none, some (zi a), some (zi b), some (on L), W, none, none, V, x, none, none]
  have y2 : evalE (cc 19) cxR16 (e W V) = .ok (rwO n) (e W V) :=
    ev_compA (List.range (n - 1)) (fun (j : Nat) => D.int j) (fun (j : Nat) => .z (tp j (j + 1))) (it_rngN (by omega) m1) (fun j hj => ⟨e21 (some (zi j)), rfl, tup2_ok (ev_v rfl) (add_ok (x := (j : Int)) (y := 1) (ev_v rfl) ev_n), rfl⟩) (by rw [List.length_range]; omega) rfl (fun _ _ => rfl)
  have y3 : evalE (cc 19) (.bin .mul (.lst (.cons cxR16 .nil)) (.n 2)) (e W V) = .ok (.l ([(rwO n).toD, (rwO n).toD].map .z)) (e W V) := bin_ok (lst1_ok y2) ev_n (mul2 _)
  have ar2 := arg_c y1 (arg_c y3 arg_0)
  rw [toD_lz, show (O.l [rwO n, rwO n]).toD = .lst [(rwO n).toD, (rwO n).toD] from rfl] at ar2
  have gR : Gd 2 (rwO n).toD := by
    rw [toD_rw]
    simp only [Gd]
    refine ⟨by rw [List.length_map, List.length_range]; omega, fun d hd => ?_⟩
    obtain ⟨j, _, rfl⟩ := List.mem_map.mp hd
    simp [Gd]
  have gR2 : Gd 3 (.lst [(rwO n).toD, (rwO n).toD]) := by
    generalize (rwO n).toD = d at gR ⊢
    simp only [Gd]
    refine ⟨by simp, fun x hx => ?_⟩
    simp only [List.mem_cons, List.not_mem_nil, or_false] at hx
    rcases hx with rfl | rfl <;> exact gR
  have q2 := rtn [.lst [(rwO n).toD, (rwO n).toD], .lst [(rwO n).toD, (rwO n).toD]] (sg__law_same 19) ar2 (same_self 3 15 gR2 (by decide)) rfl
  exact ite_ff (or2_ok (x := false) (y := false) (not_ok (b := true) q1) (not_ok (b := true) q2))
end
end K03
/-! K03q: the case, third part: refusals; the case. -/
namespace K03
open RF MX
abbrev dX (f : Nat) : RF.X := .tup (.cons (.g f) (.cons (.lst (.cons (.v 3) (.cons (.v 4) .nil))) .nil))
abbrev S17 : RF.S := .set 22 (.lst (.cons (dX f_all_pairs) (.cons (dX f_plain_pairs) (.cons (dX f_upper_lots) (.cons (dX f_in_a_row) .nil)))))
abbrev S18 : RF.S := .set 22 (.bin .add (.v 22) (.lst (.cons (.tup (.cons (.g f_stands_before) (.cons (.lst (.cons (.v 3) (.cons (.v 4) (.cons (.n 0) (.cons (.n 0) .nil))))) .nil))) (.cons (.tup (.cons (.g f_closed_up) (.cons (.lst (.cons (.v 3) (.cons (.v 4) (.cons (.lst .nil) .nil)))) .nil))) .nil))))
abbrev S19 : RF.S := .set 23 (.lst (.cons .non (.cons (.n 0) (.cons (.n 13) (.cons (.bin .sub (.n 0) (.n 1)) (.cons (.tt true) (.cons (.s ⟨#[51]⟩) (.cons (.lst (.cons (.n 3) .nil)) .nil))))))))
abbrev d22 (n : Nat) (P : Ps) : List O := ((deeds6 n P).map fun p => D.tup [.fn p.1, .lst p.2]).map .z
abbrev szO : List O := [.z .non, zi 0, zi 13, zi (-1), zb true, .z (.str ⟨#[51]⟩), .l [zi 3]]
/-- the case's slots, once the answers are judged -/
abbrev Z (s : List Int) (i n : Nat) (P : Ps) (G K M A Q U : Option O) (a b : Int) (L R V o22 o23 : Option O) : RF.Env := C s i n G (F4 P) K M A Q U none (some (zi a)) (some (zi b)) L R V o22 o23
section
variable (s : List Int) (i n : Nat) (P : Ps) (G K M A Q U L R V : Option O) (a b : Int)
theorem s17 : evalS (cc 19) Wf S17 (Z s i n P G K M A Q U a b L R V none none) = .nx (Z s i n P G K M A Q U a b L R V (some (.l [.t [.z (.fn f_all_pairs), .l [zi n, .z (pD P)]], .t [.z (.fn f_plain_pairs), .l [zi n, .z (pD P)]], .t [.z (.fn f_upper_lots), .l [zi n, .z (pD P)]], .t [.z (.fn f_in_a_row), .l [zi n, .z (pD P)]]])) none) := by kernel_rfl
theorem s18 : evalS (cc 19) Wf S18 (Z s i n P G K M A Q U a b L R V (some (.l [.t [.z (.fn f_all_pairs), .l [zi n, .z (pD P)]], .t [.z (.fn f_plain_pairs), .l [zi n, .z (pD P)]], .t [.z (.fn f_upper_lots), .l [zi n, .z (pD P)]], .t [.z (.fn f_in_a_row), .l [zi n, .z (pD P)]]])) none) = .nx (Z s i n P G K M A Q U a b L R V (some (.l (d22 n P))) none) := by kernel_rfl
theorem s19 : evalS (cc 19) Wf S19 (Z s i n P G K M A Q U a b L R V (some (.l (d22 n P))) none) = .nx (Z s i n P G K M A Q U a b L R V (some (.l (d22 n P))) (some (.l szO))) := by kernel_rfl
/-- .. with all slots filled -/
abbrev Y (s : List Int) (i n : Nat) (P : Ps) (G K M A Q U L R V : Option O) (a b : Int) : RF.Env := Z s i n P G K M A Q U a b L R V (some (.l (d22 n P))) (some (.l szO))
abbrev ar0 (d x y z : RF.X) : RF.X := .call true f__law_all_refused (.cons d (.cons x (.cons y (.cons z .nil))))
abbrev r20a : RF.X := ar0 (.bin .add (.v 22) (.lst (.cons (.tup (.cons (.g f_row_order) (.cons (.lst (.cons (.v 3) .nil)) .nil))) (.cons (.tup (.cons (.g f_grid_order) (.cons (.lst (.cons (.n 1) (.cons (.n 1) .nil))) .nil))) .nil)))) (.n 0) (.s k2) (.v 23)
theorem q20a : evalE (cc 19) r20a (Y s i n P G K M A Q U L R V a b) = .ok (zb true) (Y s i n P G K M A Q U L R V a b) := by kernel_rfl
abbrev r21a : RF.X := ar0 (.lst (.cons (.tup (.cons (.g f_grid_order) (.cons (.lst (.cons (.n 1) (.cons (.n 1) .nil))) .nil))) .nil)) (.n 1) (.s k2) (.v 23)
theorem q21a : evalE (cc 19) r21a (Y s i n P G K M A Q U L R V a b) = .ok (zb true) (Y s i n P G K M A Q U L R V a b) := by kernel_rfl
abbrev sl45 : RF.X := .sl (.v 22) (.some (.n 4)) (.some (.n 5))
theorem q45 : evalE (cc 19) sl45 (Y s i n P G K M A Q U L R V a b) = .ok (.l [.z (.tup [.fn f_stands_before, .lst [.int n, pD P, .int 0, .int 0]])]) (Y s i n P G K M A Q U L R V a b) := by kernel_rfl
abbrev sl5 : RF.X := .sl (.v 22) (.some (.n 5)) .none
theorem q5 : evalE (cc 19) sl5 (Y s i n P G K M A Q U L R V a b) = .ok (.l [.z (.tup [.fn f_closed_up, .lst [.int n, pD P, .lst []]])]) (Y s i n P G K M A Q U L R V a b) := by kernel_rfl
abbrev lw : RF.X := .lst (.cons .non (.cons (.n 0) (.cons (.tup .nil) (.cons (.lst (.cons (.v 3) .nil)) (.cons (.lst (.cons (.bin .sub (.n 0) (.n 1)) .nil)) (.cons (.lst (.cons (.n 0) (.cons (.n 0) .nil))) (.cons (.lst (.cons (.tt true) .nil)) (.cons (.lst (.cons (.s ⟨#[48]⟩) .nil)) .nil))))))))
theorem qlw : evalE (cc 19) lw (Y s i n P G K M A Q U L R V a b) = .ok (.l [.z .non, zi 0, .z (.tup []), .l [zi n], .l [zi (-1)], .l [zi 0, zi 0], .l [zb true], .l [.z (.str ⟨#[48]⟩)]]) (Y s i n P G K M A Q U L R V a b) := by kernel_rfl
end
section
variable {n : Nat} {P : Ps} (c : Cs n P) (s : List Int) (i : Nat) (G K M A Q U L R V : Option O) (a b : Int)
include c
abbrev r20b : RF.X := ar0 (.v 22) (.n 1) (.s k0) (.call true f__law_wrong_orders (.cons (.v 3) (.cons (.v 4) .nil)))
theorem Cs.q20b : evalE (cc 19) r20b (Y s i n P G K M A Q U L R V a b) = .ok (zb true) (Y s i n P G K M A Q U L R V a b) := by
  have rf := refOrders (c.o.vd c.hP) (by have := c.hl; omega) c.h1 c.h12
  have w := wrongO_eq 18 n P c.hP
  have x3 : evalE (cc 19) (.call true f__law_wrong_orders (.cons (.v 3) (.cons (.v 4) .nil))) (Z s i n P G K M A Q U a b L R V (some (frz (.l (d22 n P)))) (some (.l szO))) = .ok (.l ((wO n P).map .z)) (Z s i n P G K M A Q U a b L R V (some (frz (.l (d22 n P)))) (some (.l szO))) := rtv [.int n, pD P] (sg__law_wrong_orders 19) (args2 rfl rfl) w
  have ar := arg_c (C := cc 19) (ev_vz (C := cc 19) (e := Y s i n P G K M A Q U L R V a b) (i := 22) (o := .l (d22 n P)) rfl) (arg_c (ev_n (k := 1)) (arg_c (ev_s (x := k0)) (arg_c x3 arg_0)))
  rw [toD_lz, show (frz (.l (d22 n P))).toD = deedD (deeds6 n P) from toD_lz _] at ar
  exact rtn [deedD (deeds6 n P), .int 1, .str k0, .lst (wO n P)] (sg__law_all_refused 19) ar rf rfl
abbrev S20 : RF.S := .ite (.or (.cons (.not r20a) (.cons (.not r20b) .nil))) ff1 .nil
theorem Cs.s20 : evalS (cc 19) Wf S20 (Y s i n P G K M A Q U L R V a b) = .nx (Y s i n P G K M A Q U L R V a b) := ite_ff (or2_ok (x := false) (y := false) (not_ok (b := true) (q20a s i n P G K M A Q U L R V a b)) (not_ok (b := true) (c.q20b s i G K M A Q U L R V a b)))
abbrev oddX : RF.X := .call true f__law_odd_ones (.cons (.v 3) .nil)
theorem Cs.odd : evalE (cc 19) oddX (Y s i n P G K M A Q U L R V a b) = .ok (.l [.z .non, zi (-1), zi n, zb true, .z (.str ⟨#[48]⟩), .l [zi 0], .z (.tup [.int 0])]) (Y s i n P G K M A Q U L R V a b) := rtv [.int n] (sg__law_odd_ones 19) (args1 rfl) (odds_eq 18 n)
theorem Cs.q21b : evalE (cc 19) (ar0 sl45 (.n 2) (.s k1) oddX) (Y s i n P G K M A Q U L R V a b) = .ok (zb true) (Y s i n P G K M A Q U L R V a b) :=
  rtn [deedD [dS n P], .int 2, .str k1, .lst (odds n)] (sg__law_all_refused 19) (arg_c (q45 s i n P G K M A Q U L R V a b) (arg_c ev_n (arg_c ev_s (arg_c (c.odd s i G K M A Q U L R V a b) arg_0)))) (refThing2 c.o c.h1 c.h12 c.hP) rfl
theorem Cs.q22 : evalE (cc 19) (ar0 sl45 (.n 3) (.s k1) oddX) (Y s i n P G K M A Q U L R V a b) = .ok (zb true) (Y s i n P G K M A Q U L R V a b) :=
  rtn [deedD [dS n P], .int 3, .str k1, .lst (odds n)] (sg__law_all_refused 19) (arg_c (q45 s i n P G K M A Q U L R V a b) (arg_c ev_n (arg_c ev_s (arg_c (c.odd s i G K M A Q U L R V a b) arg_0)))) (refThing3 c.o c.h1 c.h12 c.hP) rfl
abbrev S21 : RF.S := .ite (.or (.cons (.not r21a) (.cons (.not (ar0 sl45 (.n 2) (.s k1) oddX)) .nil))) ff1 .nil
theorem Cs.s21 : evalS (cc 19) Wf S21 (Y s i n P G K M A Q U L R V a b) = .nx (Y s i n P G K M A Q U L R V a b) := ite_ff (or2_ok (x := false) (y := false) (not_ok (b := true) (q21a s i n P G K M A Q U L R V a b)) (not_ok (b := true) (c.q21b s i G K M A Q U L R V a b)))
abbrev S22 : RF.S := .ite (.not (ar0 sl45 (.n 3) (.s k1) oddX)) ff1 .nil
theorem Cs.s22 : evalS (cc 19) Wf S22 (Y s i n P G K M A Q U L R V a b) = .nx (Y s i n P G K M A Q U L R V a b) := ite_ff (not_ok (b := true) (c.q22 s i G K M A Q U L R V a b))
abbrev r23a : RF.X := ar0 sl5 (.n 2) (.s k3) lw
theorem Cs.q23a : evalE (cc 19) r23a (Y s i n P G K M A Q U L R V a b) = .ok (zb true) (Y s i n P G K M A Q U L R V a b) :=
  rtn [deedD [dC n P], .int 2, .str k3, .lst (lotsW n)] (sg__law_all_refused 19) (arg_c (q5 s i n P G K M A Q U L R V a b) (arg_c ev_n (arg_c ev_s (arg_c (qlw s i n P G K M A Q U L R V a b) arg_0)))) (refLot c.o c.h1 c.h12 c.hP) rfl
abbrev S23 : RF.S := .ret (.and (.cons r23a (.cons (.call false f__law_grid_right (.cons (.v 2) .nil)) (.cons (.cmp .eq (.blt .repr (.cons (.v 4) .nil)) (.v 5)) .nil))))
theorem Cs.s23 {k : Nat} {o : O} (ho : Gn k o) (hk : k < 800000) : ∃ o', evalS (cc 19) Wf S23 (Y s i n P (some o) (some (.z (.str (pD P).py.shown))) M A Q U L R V a b) = .rt (zb true) (Y s i n P (some o') (some (.z (.str (pD P).py.shown))) M A Q U L R V a b) := by
  obtain ⟨o', g1, g2⟩ := grid_eq ho hk
  have so := (repr_okP c.small c.hl)
  obtain ⟨x0, x1, x2, rfl, _⟩ := ho.ex
  obtain ⟨y0, y1, y2, rfl, _⟩ := g2.ex
  refine ⟨.l [zi y0, zi y1, zi y2], ret_ok (by intro i z; cases z) ?_⟩
  have q1 := c.q23a s i (some (.l [zi x0, zi x1, zi x2])) (some (.z (.str (pD P).py.shown))) M A Q U L R V a b
  have q2 : evalE (cc 19) (.call false f__law_grid_right (.cons (.v 2) .nil)) (Y s i n P (some (.l [zi x0, zi x1, zi x2])) (some (.z (.str (pD P).py.shown))) M A Q U L R V a b) = .ok (zb true) (Y s i n P (some (.l [zi y0, zi y1, zi y2])) (some (.z (.str (pD P).py.shown))) M A Q U L R V a b) := call_ref1 (sg__law_grid_right 19) rfl rfl g1
  have q3 : evalE (cc 19) (.cmp .eq (.blt .repr (.cons (.v 4) .nil)) (.v 5)) (Y s i n P (some (.l [zi y0, zi y1, zi y2])) (some (.z (.str (pD P).py.shown))) M A Q U L R V a b) = .ok (zb true) (Y s i n P (some (.l [zi y0, zi y1, zi y2])) (some (.z (.str (pD P).py.shown))) M A Q U L R V a b) := by
    have rp : evalE (cc 19) (.blt .repr (.cons (.v 4) .nil)) (Y s i n P (some (.l [zi y0, zi y1, zi y2])) (some (.z (.str (pD P).py.shown))) M A Q U L R V a b) = .ok (.z (.str (pD P).py.shown)) (Y s i n P (some (.l [zi y0, zi y1, zi y2])) (some (.z (.str (pD P).py.shown))) M A Q U L R V a b) := by
      refine blv_ok (vs1 (ev_v rfl)) ?_
      show (if reprOk (pD P) = true then _ else _) = _
      rw [if_pos so.1]
    exact cmp_ok (p := .eq) rp (ev_v (i := 5) rfl) (str_eq so.2)
  rw [evalE, and_t q1, and_t q2, and_1, q3]
end
/-! ### the case -/
abbrev E0 (s : List Int) (i : Nat) (G n4 o4 : Option O) : RF.Env := [some (.z (.scr s)), some (zi i), G, n4, o4, none, none, none, none, none, none, none, none, none, none, none, none, none, none, none, none, none, none, none]
abbrev S3 : RF.S := .set 3 (.bin .add (.n 1) (.call false f__law_random (.cons (.v 2) (.cons (.ix (.lst (.cons (.n 8) (.cons (.n 5) (.cons (.n 3) .nil)))) (.v 1)) .nil))))
theorem s3 (s : List Int) (i : Nat) (hi : i < 3) {k : Nat} {o : O} (ho : Gn k o) (hk : k < 100000) : ∃ (n : Nat) (o' : O), 1 ≤ n ∧ n ≤ 8 ∧ evalS (cc 19) Wf S3 (E0 s i (some o) none none) = .nx (E0 s i (some o') (some (zi n)) none) ∧ Gn (k + 10) o' := by
  have ix : ∃ x : Int, 1 ≤ x ∧ x ≤ 8 ∧ evalE (cc 19) (.ix (.lst (.cons (.n 8) (.cons (.n 5) (.cons (.n 3) .nil)))) (.v 1)) (E0 s i (some o) none none) = .ok (zi x) (E0 s i (some o) none none) := by
    match i, hi with
    | 0, _ => exact ⟨8, by decide, by decide, by kernel_rfl⟩
    | 1, _ => exact ⟨5, by decide, by decide, by kernel_rfl⟩
    | 2, _ => exact ⟨3, by decide, by decide, by kernel_rfl⟩
  obtain ⟨x, x1, x2, x3⟩ := ix
  obtain ⟨r, o', r1, r2, r3, r4⟩ := rnd_in (n := 17) (k := k) (i := 2) (env := E0 s i (some o) none none) (x := x) rfl ho (by omega) (by omega) ((show Sm 10 x by unfold Sm; omega).mono (by decide)) x3
  refine ⟨1 + r.toNat, o', by omega, by omega, ?_, r4⟩
  rw [show ((1 + r.toNat : Nat) : Int) = 1 + r by omega]
  exact set_ok (bin_okr (by intro i z; cases z) ev_n r1 rfl)
theorem case_eq (s : List Int) (i : Nat) (hi : i < 3) : g 20 f__law_case_right [.z (.scr s), zi i] = ret (zb true) := by
  obtain ⟨o1, g1, g2⟩ := gen_eq 17 s i hi
  have t2 : evalS (cc 19) Wf (.set 2 (.call true f__law_generator (.cons (.v 0) (.cons (.v 1) .nil)))) (E0 s i none none none) = .nx (E0 s i (some o1) none none) := set_ok (rtn [.scr s, .int i] (sg__law_generator 19) (args2 rfl rfl) g1 (by
    obtain ⟨a, b, c, rfl, _⟩ := g2.ex
    rfl))
  obtain ⟨n, o2, n1, n8, t3, g3⟩ := s3 s i hi g2 (by decide)
  obtain ⟨P, o3, d1, d2, d3, d4⟩ := drawnO_eq 15 n 2010 o2 g3 n1 (by omega) (by decide)
  have c : Cs n P := ⟨d2, n1, n8, d3⟩
  obtain ⟨a2, b2, c2, rfl, _⟩ := g3.ex
  obtain ⟨a3, b3, c3, rfl, _⟩ := d4.ex
  have t4 : evalS (cc 19) Wf (.set 4 (.call false f__law_drawn_order_of (.cons (.v 2) (.cons (.v 3) .nil)))) (E0 s i (some (.l [zi a2, zi b2, zi c2])) (some (zi n)) none) = .nx (C s i n (some (.l [zi a3, zi b3, zi c3])) (some (ptO P)) none none none none none none none none none none none none none) := set_ok (call_ref (sg__law_drawn_order_of 19) rfl (ev_v rfl) d1)
  have t5 := c.s4 s i (some (.l [zi a3, zi b3, zi c3]))
  have t6 := c.s5 s i (some (.l [zi a3, zi b3, zi c3])) (some (.z (.str (pD P).py.shown)))
  have t7 := c.s6 s i (some (.l [zi a3, zi b3, zi c3])) (some (.z (.str (pD P).py.shown))) (some (mat n (B n P)))
  have t8 := c.s7 s i (some (.l [zi a3, zi b3, zi c3])) (some (.z (.str (pD P).py.shown))) (some (mat n (B n P))) (F4 (aP n P n)) (F4 (plP n P)) (some (.l (dueO n P)))
  have t9 := c.s8 s i (some (.l [zi a3, zi b3, zi c3])) (some (.z (.str (pD P).py.shown))) (some (mat n (B n P))) (F4 (aP n P n)) (F4 (plP n P))
  have t10 := c.s9 s i (some (.l [zi a3, zi b3, zi c3])) (some (.z (.str (pD P).py.shown))) (some (mat n (B n P))) (F4 (aP n P n)) (F4 (plP n P)) (some (.l (dueO n P)))
  have t11 := c.s10 s i (some (.l [zi a3, zi b3, zi c3])) (some (.z (.str (pD P).py.shown))) (some (mat n (B n P))) (F4 (aP n P n)) (F4 (plP n P))
  obtain ⟨a, b, o4, ha, hb, t12, g4⟩ := c.s11 s i (some (.z (.str (pD P).py.shown))) (F4 (aP n P n)) (F4 (plP n P)) (some (.l (dueO n P))) (some (mat n (B n P))) d4 (by decide)
  obtain ⟨L, o5, l1, l2, t13, g5⟩ := c.s12 s i (some (.z (.str (pD P).py.shown))) (F4 (aP n P n)) (F4 (plP n P)) (some (.l (dueO n P))) (some (mat n (B n P))) (some (zi a)) (some (zi b)) g4 (by decide)
  have t14 := c.s13 s i (some (.z (.str (pD P).py.shown))) (F4 (aP n P n)) (F4 (plP n P)) (some (.l (dueO n P))) (some o5) (some (zi a)) (some (zi b)) l1 l2
  have t15 := c.s14 s i (some (.z (.str (pD P).py.shown))) (F4 (aP n P n)) (F4 (plP n P)) (some (.l (dueO n P))) (some o5) (some (mat n (B n P))) ha hb l1 l2
  have t16 := c.s15 s i (some (.z (.str (pD P).py.shown))) (F4 (aP n P n)) (F4 (plP n P)) (some (.l (dueO n P))) (some o5) (some (mat n (B n P))) (a := a) (b := b) (some (on (clsL n P L))) l1 l2
  have t17 := c.s16 s i (some (.z (.str (pD P).py.shown))) (F4 (aP n P n)) (F4 (plP n P)) (some (.l (dueO n P))) (some o5) ha hb L
  have so : ∀ k o, Gn k o → k < 800000 → ∃ o', evalS (cc 19) Wf S23 (Y s i n P (some o) (some (.z (.str (pD P).py.shown))) (some (mat n (B n P))) (F4 (aP n P n)) (F4 (plP n P)) (some (.l (dueO n P))) (some (on L)) (some (on (clsL n P L))) (some (.l ((anD n P a b L).map .z))) a b) = .rt (zb true) (Y s i n P (some o') (some (.z (.str (pD P).py.shown))) (some (mat n (B n P))) (F4 (aP n P n)) (F4 (plP n P)) (some (.l (dueO n P))) (some (on L)) (some (on (clsL n P L))) (some (.l ((anD n P a b L).map .z))) a b) := fun k o ho hk => c.s23 s i _ _ _ _ _ _ _ _ _ ho hk
  obtain ⟨o6, t24⟩ := so _ o5 g5 (by decide)
  generalize (some (O.z (.str (pD P).py.shown)) : Option O) = K at t5 t6 t7 t8 t9 t10 t11 t12 t13 t14 t15 t16 t17 t24
  have t18 := s17 s i n P (some o5) K (some (mat n (B n P))) (F4 (aP n P n)) (F4 (plP n P)) (some (.l (dueO n P))) (some (on L)) (some (on (clsL n P L))) (some (.l ((anD n P a b L).map .z))) a b
  have t19 := s18 s i n P (some o5) K (some (mat n (B n P))) (F4 (aP n P n)) (F4 (plP n P)) (some (.l (dueO n P))) (some (on L)) (some (on (clsL n P L))) (some (.l ((anD n P a b L).map .z))) a b
  have t20 := s19 s i n P (some o5) K (some (mat n (B n P))) (F4 (aP n P n)) (F4 (plP n P)) (some (.l (dueO n P))) (some (on L)) (some (on (clsL n P L))) (some (.l ((anD n P a b L).map .z))) a b
  have t21 := c.s20 s i (some o5) K (some (mat n (B n P))) (F4 (aP n P n)) (F4 (plP n P)) (some (.l (dueO n P))) (some (on L)) (some (on (clsL n P L))) (some (.l ((anD n P a b L).map .z))) a b
  have t22 := c.s21 s i (some o5) K (some (mat n (B n P))) (F4 (aP n P n)) (F4 (plP n P)) (some (.l (dueO n P))) (some (on L)) (some (on (clsL n P L))) (some (.l ((anD n P a b L).map .z))) a b
  have t23 := c.s22 s i (some o5) K (some (mat n (B n P))) (F4 (aP n P n)) (F4 (plP n P)) (some (.l (dueO n P))) (some (on L)) (some (on (clsL n P L))) (some (.l ((anD n P a b L).map .z))) a b
  rw [at__law_case_right, run_eq (h := rfl)]
  show RF.finish [false, false] (evalSs (cc 19) Wf (.cons (.set 2 (.call true f__law_generator (.cons (.v 0) (.cons (.v 1) .nil)))) (.cons S3 (.cons (.set 4 (.call false f__law_drawn_order_of (.cons (.v 2) (.cons (.v 3) .nil)))) (.cons S4 (.cons S5 (.cons S6 (.cons S7 (.cons S8 (.cons (.each 12 13 0) (.cons S10 (.cons S11 (.cons S12 (.cons S13 (.cons S14 (.cons S15 (.cons S16 (.cons S17 (.cons S18 (.cons S19 (.cons S20 (.cons S21 (.cons S22 (.cons S23 .nil))))))))))))))))))))))) (E0 s i none none none)) = _
  rw [nxt t2, nxt t3, nxt t4, nxt t5, nxt t6, nxt t7, nxt t8, nxt t9, nxt t10, nxt t11, nxt t12, nxt t13, nxt t14, nxt t15, nxt t16, nxt t17, nxt t18, nxt t19, nxt t20, nxt t21, nxt t22, nxt t23, nxr t24]
  rfl
end K03
/-! K03z: the law. -/
namespace K03
open RF MX
abbrev lastX : RF.X := .and (.cons (.call true f__law_raised (.cons (.g f_grid_order) (.cons (.lst (.cons (.n 4) (.cons (.n 4) .nil))) (.cons (.s k4) (.cons (.n 12) .nil))))) (.cons (.call true f__law_same (.cons (.call true f_grid_order (.cons (.n 2) (.cons (.n 2) .nil))) (.cons (.lst (.cons (.tup (.cons (.n 0) (.cons (.n 1) .nil))) (.cons (.tup (.cons (.n 0) (.cons (.n 2) .nil))) (.cons (.tup (.cons (.n 1) (.cons (.n 3) .nil))) (.cons (.tup (.cons (.n 2) (.cons (.n 3) .nil))) .nil))))) .nil))) .nil))
theorem last_eq (s : List Int) (x : Option O) : evalE (cc 20) lastX [some (.z (.scr s)), x] = .ok (zb true) [some (.z (.scr s)), x] := by kernel_rfl
theorem math (s : List Int) : run s = .rt (.z (.bl true)) [] := by
  show runF (cc 20) Wf d_law [.z (.scr s)] = _
  rw [run_eq (h := rfl)]
  let bd : Ss := .cons (.ite (.not (.call true f__law_case_right (.cons (.v 0) (.cons (.v 1) .nil)))) ff1 .nil) .nil
  obtain ⟨e', h1, x, h2⟩ := ev_for (t := .nm 1) (body := fun e => evalSs (cc 20) Wf bd e) (q := fun (j : Nat) => D.int j)
    (fun _ e => ∃ x, e = [some (.z (.scr s)), x]) (xs := List.range 3) (k := 0) (e := [some (.z (.scr s)), none]) ⟨none, rfl⟩ (fun j x e hj ⟨a, he⟩ => by
      obtain ⟨h, rfl⟩ := List.getElem?_eq_some_iff.mp hj
      simp only [List.length_range] at h
      simp only [List.getElem_range] at he ⊢
      subst he
      have c := rtn [.scr s, .int j] (sg__law_case_right 20) (args2 (e := [some (.z (.scr s)), some (zi j)]) (i := 0) (j := 1) rfl rfl) (case_eq s j h) rfl
      exact ⟨[some (.z (.scr s)), some (zi j)], _, rfl, by show evalSs (cc 20) Wf (.cons _ .nil) _ = _; rw [nxt (ite_ff (not_ok (b := true) c)), nx0], _, rfl⟩)
  subst h2
  show RF.finish [false] (evalSs (cc 20) Wf (.cons (.for (.nm 1) (.rng1 (.n 3)) bd) (.cons (.ret lastX) .nil)) [some (.z (.scr s)), none]) = _
  have it : evalIt (cc 20) (.rng1 (.n 3)) [some (.z (.scr s)), none] = .ok ((List.range 3).map fun (j : Nat) => D.int j) [some (.z (.scr s)), none] := it_rngN (k := 3) (by decide) ev_n
  rw [nxt (for_ok it h1), nxr (ret_ok (by intro i z; cases z) (last_eq s x))]
  rfl
end K03
theorem PySem.Challenge.cw_risingfits_k03_orders_told_holds : PySem.Challenge.rw_risingfits_k03_orders_told.Holds := by
  exact K03.holds_of fun s _ _ => K03.math s
