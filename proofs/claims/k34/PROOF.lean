import PyProof.Rows.All
import Wide.All
import OpenK.AllK
import Wide.FinOn
import HandS.ExcInit
import HandS.Nested
import HandS.Defaults
import KE.KExcSuper
import KE.KSuperObj
import KE.KExcIs
import HandS.ExcField
import HandS.IsInst
import HandS.ExcIs
import HandS.TupLe
import HandS.ForMost
import HandS.Deep
import HandS.Style
import HandS.Conv
import HandS.ExcOwn
import HandS.CallSlots
import HandS.Wide
import HandS.WideBits
import HandS.Lambda
import PyProof.ReprRoads
import HandS.WordsExc
import HandS.HeadEnd
import HandS.HeadHook4
import HandS.EndTab
import HandS.HeadWalk
import HandS.HeadHook1
import HandS.HeadHook2
import HandS.HeadHook3
import HandS.Head0
import HandS.Head1
import HandS.Head2
import PyProof.ReprLen
import PyProof.Rows.ReprOcc
import PySem.Challenge.RW_risingfits_k34_whole_falls_of_rows
set_option Elab.async false
set_option linter.all false
set_option maxRecDepth 100000
set_option maxHeartbeats 0
/-! RXa: the error classes of the program: an own __init__ that calls super().__init__ and keeps one field. -/
namespace RX
open L2 PySem PySem.Spec PyProof.Rows
/-- what the written part tells of a class C, its __init__ at fI, the cell cc -/
structure IniF (prog : Program) (K : PySem.W.Frag) (mg : Str → Option Value) (base : Heap) (C fI cc : Addr) (F : NdefX.NF) : Prop where
  oex : OexC K C
  find : PySem.W.findIn K (.ref C) "__init__" = some (some (.ref fI))
  typ : PySem.W.typeIn K (.ref fI) = some (.type "function")
  val : PySem.W.findIn K (.ref C) "value" = some none
  fn : ∃ oc od osl dV kV doc pm an ct, K.lookup fI = some ⟨oc, od, .func (PySem.W.fnX F.name F.qual F.params F.body F.scope F.cl dV kV doc pm an (.ref F.c) ct), osl⟩ ∧ Binds K (PySem.W.fnX F.name F.qual F.params F.body F.scope F.cl dV kV doc pm an (.ref F.c) ct) ["self", "value"] []
  clo : F.cl = [(("__class__" : Str), cc)]
  code : PySem.W.codeIn K (.ref F.c) F.qual = true
  file : ∃ ccl cdd vs ccs file tf, K.lookup F.c = some ⟨ccl, cdd, .fields vs, ccs⟩ ∧ vs[2]? = some (.str file tf) ∧ ((prog.main.file : Str) == file) = true
  cell : ∃ cl cld csl, K.lookup cc = some ⟨cl, cld, .cell (some (.ref C)), csl⟩
  self : ∃ ar : Arg, (F.params.posonlyargs ++ F.params.args).head? = some ar ∧ ar.arg = "self"
  sub : PySem.W.mroIn K C (.ref C) = some true
  subV : PySem.W.subIn K (.ref C) (.type "ValueError") = some true
  sup : PySem.W.ks_superIn K C C "__init__" = some (some (.builtin "ValueError.__init__"))
  opq : ∃ K1 : PySem.W.Frag, K1.In base ∧ PySem.W.nsIn K1 cStatics "thirdparty.any" = some none
  mgS : mg "super" = none
  top : (prog.main.scope.names.lookup ("super" : Str)).isSome = false
  nsc : NdefX.NScope ["self", "value", "__class__"] ["self", "value"] ["__class__"] F.scope
  kS : F.scope.names.lookup ("super" : Str) = some .globalImplicit
  body : ∃ p0 p1 p2 p3 p4 p5 p6 p7 p8 p9, F.body = [.Expr (.Call (.Attribute (.Call (.Name "super" p0) [] [] p1) "__init__" p2) [.Name "value" p3] [] p4) p5, .Assign [.Attribute (.Name "self" p6) "value" p7] (.Name "value" p8) p9] ∧ (p2.endLine == p4.line) = true
/-- the promise of such an __init__ -/
def spI (C : Addr) : Sp := fun vs H Q _ => ∃ (a : Addr) (v : V), vs = [.ref a, v] ∧ H a = some (exo a C none) ∧ ∀ dx, H dx = none → dx ≠ a → Q .non (upd (upd H dx (exd dx [("value", v)])) a (exo a C (some dx)))
section
variable {prog : Program} {w : World} {A : Around} {E : Value → Shared → Prop} {h : Heap} {g : Array GenState} {d : Drawn} {t : Nat} {os : OsState}
/-- the bound ValueError.__init__ called -/
theorem call_mw {u e C t0 : Addr} {dv : Option Addr} {c2 c3 b4 : Value} {nm qn : Str} {N : Addr} {bs bm : List Value} {hdct : Bool} {sn : List Str} {sub : List Value} {ab : Bool} {col : Option Bool} {dd : Option Addr} {k0 k1 k2 k3 k5 : Option Value} {rest : List Value} {Q : Value → Shared → Prop}
    (hC : h.get? C = some (excClassObj nm qn C N bs bm hdct sn sub ab col dd k0 k1 k2 k3 k5 "ValueError.__new__")) (hu : h.get? u = some (PySem.W.kxs_mw "ValueError.__init__" e)) (he : h.get? e = some (PySem.W.excRec (.ref C) t0 dv c2 c3 b4)) (hz : rest.length ≤ sizeLine)
    (q : ∀ h', (∀ b o, b ≠ e → h.get? b = some o → h'.get? b = some o) → h'.get? e = some (PySem.W.excRec (.ref C) h.objs.size dv c2 c3 b4) → Q .none ⟨h', g, d, t, os⟩) : wpAny (model prog w) A (call (.ref u) rest) Q E ⟨h, g, d, t, os⟩ := by
  refine wpAny_call (codeAny_of_tree (show wpAny _ A.in1 (callAny (.ref u) ⟨rest, []⟩) _ _ _ from ?_))
  unfold callAny
  refine wpAny_bind (wpAny_load hu ?_)
  have m1 : (Value.type "method-wrapper" == Value.type "method" || Value.type "method-wrapper" == Value.type "builtin_function_or_method" || Value.type "method-wrapper" == Value.type "method-wrapper") = true := by decide
  simp only [PySem.W.kxs_mw, m1, if_true]
  refine PySem.W.KFB.if_so (by decide) (wpAny_bind (PySem.W.check_bound_init F.excBase_ValueError.toExcCallFacts hC he rfl (wpAny_bind (wpAny_pure (wpAny_pure ⟨plainId_quiet F.excBase_ValueError.init.plain _, codeAny_builtin F.excBase_ValueError.initEntry ?_⟩)))))
  exact PySem.W.exc_init_tree he hz fun h' k e' _ => q h' k e'
end
section
variable {prog : Program} {w : World} {K : PySem.W.Frag} {mg : Str → Option Value} {base : Heap} {C fI cc : Addr} {F : NdefX.NF} {k : Nat}
/-- the built-in name super, in any such body -/
theorem ld_super {X : Cx} {E : Value → Shared → Prop} {pins : List (Addr × Obj)} {s : Shared} {σ : L2.St} {H : Hp} {Q : Value → Shared → Prop} (I : Inv X pins σ H s) (hg : Gl X "super") (hm : X.mg "super" = none) (q : Q (.type "super") s) :
    wpAny (model X.prog X.w) X.A (loadName X.env "super") Q E s := by
  obtain ⟨mb, b1, b2⟩ := I.mod.blt
  exact PySem.W.ks_loadName_global I.ok.kind hg (Calls.loadGlobal_builtin (by rw [I.ok.glob]; exact I.mod.glob.keeps I.bk) hm (by rw [I.ok.blt]; exact b1.keeps I.bk) ((b2 _ (by decide)).trans (by kernel_rfl)) q)
/-- a local name -/
theorem ld_loc {X : Cx} {E : Value → Shared → Prop} {pins : List (Addr × Obj)} {s : Shared} {σ : L2.St} {H : Hp} {i : Nat} {x : Str} {v : V} {Q : Value → Shared → Prop} (I : Inv X pins σ H s) (h1 : X.N[i]? = some x) (h2 : σ[i]? = some (some v)) (h3 : X.env.kindOf x = some .local)
    (q : ∀ u, RelV v u → Q u s) : wpAny (model X.prog X.w) X.A (loadName X.env x) Q E s := by
  obtain ⟨m, hn, hl⟩ := I.loc
  obtain ⟨u, r, l⟩ := hl i x v h1 h2 (.inl h3)
  rcases l with ⟨_, e⟩ | ⟨z, _⟩
  · exact wpAny_loadName_local I.ok.kind h3 hn e (q u r)
  · rw [h3] at z; rcases z with z | z <;> cases z
theorem at_method {A : Around} {c : Code} {E : Value → Shared → Prop} {s : Shared} {env : PySem.Env} {o e : Expr} {name : Str} {apos pos : Pos} {Q : Value → Shared → Prop} (he : starEach [e] env = [(false, eval e env)]) (hl : (apos.endLine == pos.line) = true)
    (q : PySem.wpAt (model prog w) A c (attributeBase o name env (eval o env)) (fun ov s₁ => ∀ pl, wpAny (model prog w) A (getMethod ov name pl) (fun fx s₂ => wpAny (model prog w) A (callWith pos fx.1 fx.2 (backTo pos [(false, eval e env)]) []) Q E s₂) E s₁) E s) :
    PySem.wpAt (model prog w) A c (eval (.Call (.Attribute o name apos) [e] [] pos) env) Q E s := by
  rw [arm_eval_Call]
  refine PySem.wpAt_bind (ks_wpAt_mono q (fun ov s₁ hov => wpAt_of_wpAny (wpAny_bind (wpAny_standAt ?_))) fun _ _ z => z)
  have hform : methodCallForm ([e].length + ([] : List Keyword).length) (backTo pos (starEach [e] env)) (backToKw pos (keywordEach [] env)) = true := by rw [he]; rfl
  have hpos : methodCallPos true o env apos pos = pure pos := by unfold methodCallPos; simp [hl]
  unfold methodCall
  rw [hform, he]
  refine wpAny_bind (wpAny_holding (wpAny_mono (hov _) (fun fx s₂ hfx => ?_) fun _ _ z => z))
  exact wpAny_bind (wpAny_of_eq hpos hfx)
theorem ini_ok (hI : IniF prog K mg base C fI cc F) : ∃ fd, Binds K fd ["self", "value"] [] ∧ FnOk prog w K mg base (L2.CX prog w) (k + 1) fI fd ["self", "value"] (spI C) := by
  obtain ⟨oc, od, osl, dV, kV, doc, pm, an, ct, lk, hb⟩ := hI.fn
  refine ⟨_, hb, fun vs H Q E ⟨a, v, e, _⟩ => by rw [e]; rfl, fun A outer s H args us vs Q E hr e0 hbind r ⟨a, v, evs, ha, hq⟩ => ?_⟩
  subst evs
  have S := hI.nsc
  have KX : K.In s.heap := e0.mod.kin.keeps fun b o e => (e0.bs b o e).1
  have lim : s.heap.NoLimit := e0.mod.nolimit.keeps fun b o e => (e0.bs b o e).1
  obtain ⟨cl, cld, csl, lkc⟩ := hI.cell
  have Hcc : H cc = none := (e0.bs _ _ (e0.mod.kin _ _ lkc)).2
  have icc : s.heap.IsCell cc (some (.ref C)) := ⟨_, KX _ _ lkc, rfl⟩
  refine codeAny_call_function hr.depth (KX _ _ lk) rfl S.co S.gen rfl (PySem.W.codeRec_of KX hI.code) (hbind _ _ _ _ ?_)
  refine wpAny_newFunctionEnv S.nocell (fun ⟨n, _⟩ hy => S.par n (List.of_mem_zip hy).1) (fun h₁ hns hsb => ⟨lim.fresh _ hsb, ?_⟩) S.kind
  show codeAny _ _ (.func F.body (NdefX.envF F fI s.heap.objs.size)) _ _
  have kp : ∀ b o, s.heap.get? b = some o → h₁.get? b = some o := fun b o e => hsb.extBut b o (Nat.ne_of_lt (Heap.lt_size e)) (Heap.get?_push_of_some _ e)
  have C0 : NdefX.CellsAt F.cl ["__class__"] [none] s.heap H := by
    rw [hI.clo]
    have look : ∀ (y : Str) (c : Addr), ([("__class__", cc)] : List (Str × Addr)).lookup y = some c → y = "__class__" ∧ c = cc := fun y c z => by
      have m := PySem.mem_of_lookup z
      simp at m
      exact m
    refine ⟨rfl, fun y c z => ?_, fun x y c z1 z2 => by rw [(look x c z1).1, (look y c z2).1], fun i y hi => ?_⟩
    · rw [(look y c z).2]; exact ⟨Hcc, _, icc⟩
    · match i, hi with
      | 0, hi =>
        obtain rfl : ("__class__" : Str) = y := by simpa using hi
        exact ⟨cc, by simp [List.lookup], fun v z => by simp at z⟩
      | i + 1, hi => simp at hi
  have rl := r.length
  have I : Inv (NdefX.ncx (L2.CX prog w) prog w K mg base ["self", "value", "__class__"] F fI A outer s H E) [] (NdefX.startF ["self", "value", "__class__"] [.ref a, v] [none]) H { s with heap := h₁, toks := s.toks + ((["self", "value"] : List Str).zip us).length } :=
    NdefX.inv_startN S (by exact hr.hd) e0 rfl r C0 hns kp
  obtain ⟨p0, p1, p2, p3, p4, p5, p6, p7, p8, p9, hbody, hline⟩ := hI.body
  rw [hbody]
  refine ks_codeAny_funcAt ?_
  obtain ⟨ar, har, ear⟩ := hI.self
  obtain ⟨ccl, cdd, cvs, ccs, file, tf, lkd, hvs, hfile⟩ := hI.file
  obtain ⟨nm, q, N, bs, bm, sn, sub, ab, col, dd, k0, k1, k2, k3, k5, lkC, hbm⟩ := hI.oex.cls
  have hcell : (NdefX.envF F fI s.heap.objs.size).cells.lookup ("__class__" : Str) = some cc := by show F.cl.lookup _ = _; rw [hI.clo]; simp [List.lookup]
  obtain ⟨t1, ho⟩ := exo_at I.hok ha
  have KI := I.kIn
  have nC : a ≠ C := fun z => by
    have e1 := KI _ _ lkC
    rw [← z, ho] at e1
    cases Option.some.inj e1
  refine ks_wpAt_execs_cons (ks_wpAt_Expr_any (at_method (by rfl) hline (ks_wpAt_super_base (f := fI) (cc := F.c) (ar := ar) (hI.kS) (S.frk _ (by simp)) (by decide) rfl (KI _ _ lk) rfl har rfl (KI _ _ lkd) rfl hvs hfile hI.top ?_)) (by unfold interactive; rw [show (NdefX.envF F fI s.heap.objs.size).scope.kind = .function from S.kind]; rfl))
  have hki : (NdefX.envF F fI s.heap.objs.size).scope.kind = .function := S.kind
  refine ld_super I hI.kS hI.mgS ⟨rfl, ?_⟩
  refine wpAny_loadName_free S.kind (S.frk _ (by simp)) hcell ⟨_, KI _ _ lkc, rfl⟩ ?_
  rw [ear]
  refine ld_loc (i := 0) (v := .ref a) I rfl rfl (S.par _ (by simp)) fun u0 r0 => ?_
  obtain rfl : u0 = Value.ref a := r0
  refine ks_wpAny_isType_cls (KI _ _ lkC) rfl ⟨rfl, ?_⟩
  refine ks_wpAny_call_super (KI _ _ lkC) rfl ho rfl (fun c z => by cases z) (PySem.W.looks_mroIn KI hI.sub) fun h2 e2 k2' => ?_
  have I2 : Inv _ [] _ H _ := I.kept (t' := s.toks + ((["self", "value"] : List Str).zip us).length) k2'
  have ho2 := k2' _ _ ho
  have K2 : K.In h2 := KI.keeps k2'
  intro pl
  have hIn : PySem.W.Looks (model prog w) h2 (isInstance (.ref a) (.type "ValueError")) true := by
    have LT : PySem.W.Looks (model prog w) h2 (typeOf (.ref a)) (.ref C) := fun A Q E s k q => wpAny_typeOf_ref (k _ _ ho2) q
    exact LT.andThen (PySem.W.looks_subIn K2 hI.subV)
  obtain ⟨K1, K1b, hK1⟩ := hI.opq
  have K1in : K1.In h2 := K1b.keeps fun b o e => k2' _ _ (I.bk b o e)
  have hsup := hI.sup
  unfold PySem.W.ks_superIn at hsup
  obtain ⟨cd, hcd, hal⟩ := Option.bind_eq_some_iff.mp hsup
  refine PySem.W.kxs_getMethod PySem.W.kxs_ValueError e2 (PySem.W.looks_opaque K1in hK1) (l₀ := cd.mro) (fun A Q E s k q => wpAny_bind ((PySem.W.looks_clsIn K2 hcd) A _ E s k (wpAny_pure q))) rfl K2 hal hIn nC (by decide) ?_
  have hu : (h2.push (PySem.W.kxs_mw "ValueError.__init__" a)).get? h2.objs.size = some (PySem.W.kxs_mw "ValueError.__init__" a) := Heap.get?_push_at rfl rfl
  have k3 : ∀ b o, h2.get? b = some o → (h2.push (PySem.W.kxs_mw "ValueError.__init__" a)).get? b = some o := fun b o e => Heap.get?_push_of_some _ e
  have I3 : Inv _ [] _ H _ := I2.kept (t' := s.toks + ((["self", "value"] : List Str).zip us).length + 1) k3
  refine PySem.W.kxs_callWith (i := "ValueError.__init__") (x := a) (by rfl) (Calls.evalArgs_plain (Calls.spliced_cons (wpAny_Name (ld_loc (i := 1) (v := v) I3 rfl rfl (S.par _ (by simp)) fun uv rv => Calls.spliced_nil ⟨hu, ?_⟩))))
  refine call_mw (k3 _ _ (k2' _ _ (KI _ _ lkC))) hu (k3 _ _ ho2) (by rw [sizeLine_eq]; show 1 ≤ _; omega) fun h4 k4 e4 => ?_
  have ho3 := k3 _ _ ho2
  have J := I3.write (t' := s.toks + ((["self", "value"] : List Str).zip us).length + 1) (x := a) (e := a) (o := exo a C none) (by rw [ha]; exact True.intro) (.inl rfl) k4 ⟨_, e4⟩ (exo_ok e4)
  have eu : upd H a (exo a C none) = H := by
    funext b
    by_cases hb : b = a
    · rw [hb, upd_same, ha]
    · rw [upd_ne hb]
  rw [eu] at J
  refine wpAt_of_wpAny ?_
  have vis : ∀ x ∈ (["self", "value"] : List Str), Vis F.scope x := fun x m => .inl (S.par x m)
  have pv : PE (NdefX.ncx (L2.CX prog w) prog w K mg base ["self", "value", "__class__"] F fI A outer s H E) (.Name "value" p8) (tVar 1) := pe_var rfl (vis _ (by simp)) (by decide) (by decide)
  have pS : PE (NdefX.ncx (L2.CX prog w) prog w K mg base ["self", "value", "__class__"] F fI A outer s H E) (.Name "self" p6) (tVar 0) := pe_var rfl (vis _ (by simp)) (by decide) (by decide)
  have run := (pss_cons (ps_ost (p' := p7) (pos := p9) (f := "value") pS pv) pss_nil).run [] _ _ H { nx := fun _ H' => Q .non H', rt := Q } J ⟨v, rfl, .ref a, rfl, a, C, rfl, hI.oex, hI.val, .inl ⟨ha, fun dx h1 h2 => hq dx h1 h2⟩⟩
  refine wpAny_mono run (fun fl s' hs => ?_) fun e s' hs => hs
  cases fl with
  | ret u =>
    obtain ⟨v6, σ6, H6, J6, r6, q6⟩ := hs
    exact ⟨v6, H6, J6.os, J6.bare, J6.base, J6.hok, r6, q6⟩
  | next =>
    obtain ⟨σ6, H6, J6, q6⟩ := hs
    exact ⟨V.non, H6, J6.os, J6.bare, J6.base, J6.hok, rfl, q6⟩
  | brk =>
    obtain ⟨_, _, _, q6⟩ := hs
    exact False.elim q6
  | cont =>
    obtain ⟨_, _, _, q6⟩ := hs
    exact False.elim q6
end
end RX
/-! RXb: a caught error kept in a variable; its field and its class. -/
namespace RX
open L2 PySem PySem.Spec PyProof.Rows
/-- at a: an error of the class cls with the dict d -/
def exk (cls : Value) (d : Option Addr) (a : Addr) : HO := .ext fun h => ∃ (oe : Obj) (vs : Array Value), h.get? a = some oe ∧ Zc cls d oe ∧ oe.data = .fields vs
theorem exk_tup {cls : Value} {d : Option Addr} {a : Addr} {xs : List V} : exk cls d a ≠ .tup xs := fun z => by unfold exk at z; cases z
theorem exk_lst {cls : Value} {d : Option Addr} {a : Addr} {xs : List V} : exk cls d a ≠ .lst xs := fun z => by unfold exk at z; cases z
theorem exk_tbl {cls : Value} {d : Option Addr} {a : Addr} {ps : Array Value} : exk cls d a ≠ .tbl ps := fun z => by unfold exk at z; cases z
section
variable {X : Cx} {pins : List (Addr × Obj)} {σ : L2.St} {H : Hp} {s : Shared} {a : Addr} {oe : Obj} {vs : Array Value} {cls : Value} {d : Option Addr}
/-- a pinned object is tracked from now on -/
theorem track (I : Inv X ((a, oe) :: pins) σ H s) (z : Zc cls d oe) (hd : oe.data = .fields vs) (n0 : X.s_0.heap.get? a = none) (np : ∀ p ∈ X.pn ++ pins, p.1 ≠ a) : Inv X pins σ (upd H a (exk cls d a)) s := by
  obtain ⟨e, na, nL, nF, _⟩ := I.pin (a, oe) (List.mem_append_right _ List.mem_cons_self)
  have nc : ∀ x c, X.env.cells.lookup x = some c → c ≠ a := fun x c h y => by
    obtain ⟨v, o, ho, hdc⟩ := I.cell x c h
    rw [y, show s.heap.get? a = some oe from e] at ho
    rw [← Option.some.inj ho, hd] at hdc
    cases hdc
  refine ⟨I.ok, I.os, I.bare, ⟨I.base.keep, I.base.slot, fun b o h1 h2 h3 => ?_, I.base.there, fun b xs h => ?_, fun b o u h => ?_, fun b ps h => ?_⟩, I.loc, I.cell, ?_, fun x c h => ?_, fun p hp => ?_, fun b o h => ?_, I.len⟩
  · rw [upd_ne (fun y => by rw [y, n0] at h1; cases h1)]; exact I.base.free b o h1 h2 h3
  · have q := I.base.tups b xs h
    rw [upd_ne (ne_of_none q na)]; exact q
  · have q := I.base.frzs b o u h
    rw [upd_ne (ne_of_none q na)]; exact q
  · obtain ⟨m, q⟩ := I.base.tbls b ps h
    exact ⟨m, by rw [upd_ne (ne_of_none q na)]; exact q⟩
  · rw [upd_ne (fun y => nL y.symm)]; exact I.free
  · rw [upd_ne (nc x c h)]; exact I.freeC x c h
  · obtain ⟨q1, q2, q3⟩ := I.pin p (by rcases List.mem_append.mp hp with m | m <;> simp [m])
    exact ⟨q1, by rw [upd_ne (np p hp)]; exact q2, q3⟩
  · by_cases hb : b = a
    · subst hb
      rw [upd_same] at h
      cases h
      exact ⟨⟨oe, vs, e, z, hd⟩, ⟨oe, e⟩, fun _ _ ⟨o, v, q1, q2⟩ k => ⟨o, v, k o q1, q2⟩⟩
    · rw [upd_ne hb] at h
      exact (I.hok b o h).stay (fun _ _ _ q => q) (fun c q => by rw [upd_ne (ne_of_none q na)]; exact q) fun c xs q => by rw [upd_ne (ne_of_none q na)]; exact q
end
/-- what the clause asks: the class is caught, then the variable holds the error -/
def wKeep (K : PySem.W.Frag) (c : Value) (i j : Nat) (D : Ends) : WX := fun cls d σ H => PySem.W.exmOne K cls c = some true ∧ ∀ a, H a = none → D.nx (((σ.set i (some (.ref a))).set j (some (.ref a))).set i none) (upd H a (exk cls d a))
section
variable {X : Cx} {x n m : Str} {c : Value} {i j : Nat} {body : List Stmt} {np np2 mp ap pos pos' : Pos} {tb : WX → TS}
theorem ps_try_keep (hs : X.stack = X.env :: X.outer) (hf : X.env.frame = some X.env.locals) (hex : X.ex = []) (hN : X.N.Nodup) (hi : X.N[i]? = some n) (hln : X.env.kindOf n = some .local) (hj : X.N[j]? = some m) (hlm : X.env.kindOf m = some .local)
    (hnd : (n == ("__debug__" : Str)) = false) (hnc : (n == ("__classdict__" : Str)) = false) (hc : Names X x c)
    (hb : ∀ (W : WX) (pn : List (Addr × Obj)) (xe : Value → Shared → Prop), Takes (X.tr pn xe) W → PassesOwn (model X.prog X.w) X.A X.env xe → PSs (X.tr pn xe) body (tb W)) :
    PS X (.Try body [.ExceptHandler (some (.Name x np)) (some n) [.Assign [.Name m mp] (.Name n np2) ap] pos'] [] [] pos) (fun D σ H => tb (wKeep X.K c i j D) D σ H) := by
  refine ⟨fun pins s σ H D I h => ?_⟩
  have ok := I.ok
  have hfr : X.A.frames = some (X.env :: X.outer) := by rw [ok.frames, hs]
  have back : ∀ (f : Flow) (s1 : Shared), SP (X.tr (X.pn ++ pins) fun e s₁ => wpAny (model X.prog X.w) X.A (noteFrame e X.env) (fun _ s₂ => wpAny (model X.prog X.w) X.A (setFlight e none) (fun _ s₃ => wpAny (model X.prog X.w) X.A
      (handleBy e X.env [.ExceptHandler (some (.Name x np)) (some n) [.Assign [.Name m mp] (.Name n np2) ap] pos']) (SP X pins D) X.xe s₃) X.xe s₂) X.xe s₁) [] D f s1 → SP X pins D f s1 := fun f s1 q => by
    cases f with
    | next => obtain ⟨σ1, H1, J1, q1⟩ := q; exact ⟨σ1, H1, J1.ofTry ok, q1⟩
    | brk => obtain ⟨σ1, H1, J1, q1⟩ := q; exact ⟨σ1, H1, J1.ofTry ok, q1⟩
    | cont => obtain ⟨σ1, H1, J1, q1⟩ := q; exact ⟨σ1, H1, J1.ofTry ok, q1⟩
    | ret u => obtain ⟨v1, σ1, H1, J1, r1, q1⟩ := q; exact ⟨v1, σ1, H1, J1.ofTry ok, r1, q1⟩
  refine wpAny_Try_except (wpAny_mono ((hb (wKeep X.K c i j D) (X.pn ++ pins) _ (fun u s' xx => ?_) PassesOwn.looking).run [] s σ H D (I.toTry _) h) (fun f s1 q => ?_) (fun e s1 he => he))
  · obtain ⟨a, B, sI, pins1, σ1, H1, cls, d, rfl, J0, nb, up, sky, na, os, ag, hm, hyes⟩ := xx
    have J : Inv X pins σ1 H1 sI := J0.ofTry ok
    have sky' : Sky B (X.env :: X.outer) a (Zc cls d) X.env.locals s'.heap := by rw [← hs]; exact sky
    have Ba : B.get? a = none := by
      rcases sky' with q | q | q
      · exact q.2.1
      · exact q.2.1
      · exact q.2.1
    show wpAny (model X.prog X.w) X.A (noteFrame (.ref a) X.env) _ _ _
    refine Sky.land Zc.steady hfr hf sky' fun h3 fl3 up3 => ?_
    have J3 : Inv X pins σ1 H1 { s' with heap := h3 } := J.landed nb fl3.1 (up.trans up3) os ag
    obtain ⟨o3, v3, he3, hz3, hd3⟩ := fl3.there
    have nfr : a ∉ frs (X.env :: X.outer) := fun hin => by
      obtain ⟨_, o', e', hnf⟩ := fl3.2.2.1.mem hin
      rw [he3] at e'
      exact hnf v3 (by rw [← Option.some.inj e']; exact hd3)
    have aI : sI.heap.get? a = none := by
      cases q : sI.heap.get? a with
      | none => rfl
      | some o =>
        have z := nb a o q (by rw [hs]; exact nfr)
        rw [Ba] at z; cases z
    have n0 : X.s_0.heap.get? a = none := by
      cases q : X.s_0.heap.get? a with
      | none => rfl
      | some o =>
        obtain ⟨o', q'⟩ := J.base.there a o q (by rw [hex]; exact fun z => nomatch z)
        rw [aI] at q'; cases q'
    have np' : ∀ p ∈ X.pn ++ pins, p.1 ≠ a := fun p hp y => by
      have q := (J.pin p hp).1
      rw [y, aI] at q; cases q
    have nL : a ≠ X.env.locals := fun y => nfr (List.mem_filterMap.mpr ⟨X.env, List.mem_cons_self, by rw [hf, y]⟩)
    have nF : a ∉ X.fs := fun hin => by
      obtain ⟨e, he, q⟩ := List.mem_filterMap.mp hin
      exact nfr (List.mem_filterMap.mpr ⟨e, List.mem_cons_of_mem _ he, q⟩)
    have S3 := J3.suite he3 hd3 na nL nF
    refine wpAny_handleBy_cons (codeAny_handlers_test ?_) (by intro q; cases q)
    have LT : PySem.W.Looks (model X.prog X.w) h3 (typeOf (.ref a)) cls := fun A Q E s k q => wpAny_typeOf_ref (k _ _ he3) (by rw [hz3.1]; exact q)
    have test : ∀ {Q : Value → Shared → Prop} {E : Value → Shared → Prop}, Q c { s' with heap := h3 } → wpAny (model X.prog X.w) (X.A.mark (some (.ref a))) (eval (.Name x np) X.env) Q E { s' with heap := h3 } := fun {Q E} q => by
      obtain ⟨g1, g2, g3 | ⟨g3, g4, g5⟩⟩ := hc
      · exact ld_glob (X := X.suite a ((a, o3) :: (X.pn ++ pins))) S3 g1 g3 q g2
      · exact ld_blt (X := X.suite a ((a, o3) :: (X.pn ++ pins))) S3 g1 g3 g4 q g5 g2
    refine test ((PySem.W.exm_one (M := model X.prog X.w) J3.kIn LT hm).here (codeAny_handlers_suite_as (HandSPX.lands_againZ fl3 fun h4 fl4 up4 => ?_)))
    have J4 : Inv X pins σ1 H1 { s' with heap := h4 } := J.landed nb fl4.1 ((up.trans up3).trans up4) os ag
    obtain ⟨o4, v4, he4, hz4, hd4⟩ := fl4.there
    have S4 := J4.suite he4 hd4 na nL nF
    refine store_ok (X := X.suite a ((a, o4) :: (X.pn ++ pins))) (v := .ref a) S4 hN hi (.inl hln) rfl (fun s5 S5 => ?_) (.inr hln)
    have il : i < σ1.length := by rw [J.len]; exact (List.getElem?_eq_some_iff.mp hi).1
    have ps1 : PSs (X.suite a ((a, o4) :: (X.pn ++ pins))) [.Assign [.Name m mp] (.Name n np2) ap] _ := pss_cons (ps_set (hN) hj (.inl hlm) (pe_var hi (.inl hln) hnd hnc) (by rfl) (.inr hlm)) pss_nil
    refine wpAny_mono (ps1.run [] s5 _ H1 { nx := fun σ6 H6 => σ6 = (σ1.set i (some (.ref a))).set j (some (.ref a)) ∧ H6 = H1, rt := fun _ _ => False } S5 ⟨.ref a, List.getElem?_set_self il, rfl, rfl⟩) (fun f s6 hsp => ?_) (fun _ _ z => False.elim z)
    cases f with
    | next =>
      obtain ⟨σ6, H6, S6, rfl, rfl⟩ := hsp
      have K6 : Inv X ((a, o4) :: pins) _ _ s6 := ⟨ok, S6.os, S6.bare, S6.base, S6.loc, S6.cell, S6.free, S6.freeC, fun p hp => S6.pin p (List.mem_append_left _ (by
        rcases List.mem_append.mp hp with z | z
        · simp [z]
        · rcases List.mem_cons.mp z with z | z <;> simp [z])), S6.hok, S6.len⟩
      exact gone_ok K6 hN hi hln fun s7 J7 => ⟨_, _, track J7 hz4 hd4 n0 np', hyes a na⟩
    | brk => obtain ⟨_, _, _, z⟩ := hsp; exact False.elim z
    | cont => obtain ⟨_, _, _, z⟩ := hsp; exact False.elim z
    | ret u => obtain ⟨_, _, _, _, _, z⟩ := hsp; exact False.elim z
  · cases f with
    | next => obtain ⟨σ1, H1, J1, q1⟩ := q; exact wpAny_execs_nil ⟨σ1, H1, J1.ofTry ok, q1⟩
    | brk => exact back _ _ q
    | cont => exact back _ _ q
    | ret u => exact back _ _ q
end
end RX
/-! RXc: the field and the class of a kept error; raising one. -/
namespace RX
open L2 PySem PySem.Spec PyProof.Rows
section
variable {X : Cx} {e : Expr} {te : TE} {pos : Pos} {n : Str}
/-- the heap's instance of a kept error -/
theorem inst_at {pins : List (Addr × Obj)} {σ : L2.St} {H : Hp} {s : Shared} {a C dx : Addr} {fs : List (Str × V)} (I : Inv X pins σ H s) (h1 : H a = some (exk (.ref C) (some dx) a)) (h2 : H dx = some (.xd fs)) :
    ∃ (oe : Obj) (od : Obj) (mA : Str → Option Value), PySem.W.InstAt s.heap a oe C (some od) ∧ s.heap.Ns1 dx mA ∧ s.heap.get? dx = some od ∧ ∀ f, RelO (fs.lookup f) (mA f) := by
  have q1 : ObjOk X.prog X.w H s.heap a (.ext fun h => ∃ (oe : Obj) (vs : Array Value), h.get? a = some oe ∧ Zc (.ref C) (some dx) oe ∧ oe.data = .fields vs) := I.hok a _ h1
  obtain ⟨⟨oe, vs, e1, z, e2⟩, _⟩ := q1
  have q2 : ObjOk X.prog X.w H s.heap dx (.xd fs) := I.hok dx _ h2
  obtain ⟨mA, hns, hr⟩ := q2
  obtain ⟨od, es, ep, ho, rest⟩ := id hns
  exact ⟨oe, od, mA, ⟨e1, z.1, by unfold PySem.W.notCls; rw [e2] <;> rfl, by rw [z.2]; exact ho⟩, hns, ho, hr⟩
/-- e.n of a kept error -/
def tXk (K : PySem.W.Frag) (n : Str) (te : TE) : TE := fun σ H Q => te σ H fun x H1 => ∃ (a C dx : Addr) (fs : List (Str × V)) (v : V), x = .ref a ∧ H1 a = some (exk (.ref C) (some dx) a) ∧ XfC K C ∧ PySem.W.findIn K (.ref C) n = some none ∧ H1 dx = some (.xd fs) ∧ fs.lookup n = some v ∧ Q v H1
theorem pe_xk (he : PE X e te) (hb : attributeBase e n X.env (eval e X.env) = eval e X.env := by rfl) : PE X (.Attribute e n pos) (tXk X.K n te) := by
  refine ⟨fun pins s σ H Q I h => attr_of hb (thn (he.run pins s σ H _ I h) fun u s1 hh => ?_)⟩
  obtain ⟨x, H1, I1, rx, a, C, dx, fs, v, rfl, ha, T, hno, hd, hl, q⟩ := hh
  obtain rfl : u = Value.ref a := rx
  obtain ⟨oe, od, mA, J, hns, ho, hr⟩ := inst_at I1 ha hd
  obtain ⟨od2, ho2, l2⟩ := lookIn_ns hns
  rw [ho] at ho2
  obtain rfl := Option.some.inj ho2
  obtain ⟨u2, hu, ru⟩ := RelO.some_of (v := v) (o := mA n) (by rw [← hl]; exact hr n)
  exact HandSPX.exc_get I1.kIn J T.ga T.gg T.exC (PySem.W.findObj_own T.hdC hno rfl (by rw [l2, hu])) (handed_of ru) ⟨v, H1, I1.tok _, ru, q⟩
/-- isinstance(e, c) of a kept error -/
def rIsK (K : PySem.W.Frag) : List V → Hp → VK → Prop := fun xs H Q => ∃ (a C dx : Addr) (fs : List (Str × V)) (c : V) (cv : Value) (b : Bool), xs = [.ref a, c] ∧ H a = some (exk (.ref C) (some dx) a) ∧ H dx = some (.xd fs) ∧ ExcC K C ∧ (∀ u, RelV c u → u = cv) ∧ PySem.W.kitOne K (.ref C) cv = some b ∧ Q (.bl b) H
theorem call_isK : CallR X (.builtin "isinstance") (rIsK X.K) := by
  intro pins s σ H xs us Q I r h
  obtain ⟨a, C, dx, fs, c, cv, b, rfl, ha, hd, T, hcv, e, q⟩ := h
  match us, r with
  | [u1, u2], .cons r1 (.cons r2 .nil) =>
    obtain rfl : u1 = Value.ref a := r1
    obtain rfl := hcv _ r2
    obtain ⟨oe, od, mA, J, _⟩ := inst_at I ha hd
    have hcl : (PySem.W.clsIn X.K C).isSome = true := by obtain ⟨cd, h1, _⟩ := PySem.W.any_some T.hd; rw [h1]; rfl
    exact PySem.W.kia_one (PySem.W.kitx_exc hcl T.hg T.hk T.hs T.ha T.hn T.ht T.hm) I.kIn J e (fun z => nomatch z) fun tk => ⟨.bl b, H, I.kept (t' := tk) fun _ _ z => z, rfl, q⟩
end
section
variable {prog : Program} {w : World} {X : Cx} {W : WX} {x : Str} {C fI cc : Addr} {F : NdefX.NF} {e : Expr} {te : TE} {p pos pos' : Pos} {k : Nat}
/-- raise C(e) -/
def tRaise (C : Addr) (W : WX) (te : TE) : TS := fun _ σ H => tMkO C (spI C) [] (tCons te tNil) σ H fun cls d H' => W cls d σ H'
theorem del_back {H1 : Hp} {a C dx : Addr} {o1 o2 : HO} {fs : List (Str × V)} (n1 : H1 a = none) (n2 : dx ≠ a) : upd (del (upd (upd (upd H1 a o1) dx o2) a (exo a C (some dx))) a) dx (.xd fs) = upd H1 dx (.xd fs) := by
  funext b
  by_cases h1 : b = dx
  · rw [h1, upd_same, upd_same]
  · rw [upd_ne h1, upd_ne h1]
    by_cases h2 : b = a
    · rw [h2, del_same, n1]
    · rw [del_ne h2, upd_ne h2, upd_ne h1, upd_ne h2]
theorem raise_point {H1 : Hp} {v : V} {W' : XK} (h : ∀ dx, H1 dx = none → W' (.ref C) (some dx) (upd H1 dx (.xd [("value", v)]))) :
    [v].length ≤ 1000 ∧ ∀ a, H1 a = none → spI C (.ref a :: ([v] ++ [])) (upd H1 a (exo a C none))
      (fun v H2 => v = .non ∧ ∃ (d : Addr) (fs : List (Str × V)), H2 a = some (exo a C (some d)) ∧ H2 d = some (exd d fs) ∧ H1 d = none ∧ W' (.ref C) (some d) (upd (del H2 a) d (.xd fs))) (fun _ _ _ => False) := by
  refine ⟨by simp, fun a na => ⟨a, v, rfl, upd_same, fun dx nd ne => ⟨rfl, dx, _, upd_same, by rw [upd_ne ne, upd_same], ?_, ?_⟩⟩⟩
  · rw [upd_ne ne] at nd; exact nd
  · rw [del_back na ne]
    exact h dx (by rw [upd_ne ne] at nd; exact nd)
theorem ps_raise_own (hI : IniF X.prog X.K X.mg X.base C fI cc F) (tk : Takes X W) (hc : X.calm = true) (hr : Room 2 X.A) (hx : Passes (L2.CX X.prog X.w) X (fun _ _ _ => False)) (hg : Gl X x) (hm : X.mg x = some (.ref C)) (hdb : (x == ("__debug__" : Str)) = false) (he : PE X e te)
    (hst : starEach [e] X.env = [(false, eval e X.env)]) : PS X (.Raise (some (.Call (.Name x p) [e] [] pos)) none pos') (tRaise C W te) := by
  obtain ⟨fd, hb, F1⟩ := ini_ok (w := X.w) (k := 0) hI
  exact ps_raise hc tk (pmk_oex (p := p) (pos := pos) (dvs := []) hI.oex hI.find hI.typ F1 hr hb .nil hx hg hm (pa_cons he pa_nil hst) hdb hst)
end
end RX
/-! RXd: the facts of an error class, as one Bool over what the head has laid. -/
namespace RX
open L2 PySem PySem.Spec PyProof.Rows
theorem bb {a b : Bool} (h : (a && b) = true) : a = true ∧ b = true := Bool.and_eq_true_iff.mp h
def clsB (K : PySem.W.Frag) (C : Addr) : Bool := match K.lookup C with
  | some ⟨.type t, _, .cls cd, sl⟩ => decide (t = "type") && !cd.hasDel && cd.hasDict && (match cd.mro, sl.toList with
    | .ref C' :: bm, [_, _, _, _, some (.builtin n), _] => decide (C' = C) && decide (n = "ValueError.__new__") && PySem.HandSPX.refsVE bm
    | _, _ => false)
  | _ => false
theorem clsB_ok {K : PySem.W.Frag} {C : Addr} (h : clsB K C = true) : ∃ nm q N bs bm sn sub ab col dd k0 k1 k2 k3 k5, K.lookup C = some (excClassObj nm q C N bs bm true sn sub ab col dd k0 k1 k2 k3 k5 "ValueError.__new__") ∧ PySem.HandSPX.refsVE bm = true := by
  unfold clsB at h
  split at h
  · rename_i t dd cd sl hl
    obtain ⟨h1, h2⟩ := bb h
    obtain ⟨h3, h4⟩ := bb h1
    obtain ⟨h5, h6⟩ := bb h3
    split at h2
    · rename_i C' bm k0 k1 k2 k3 n k5 hm hs
      obtain ⟨g1, g2⟩ := bb h2
      obtain ⟨g3, g4⟩ := bb g1
      obtain rfl := of_decide_eq_true g3
      obtain rfl := of_decide_eq_true g4
      obtain rfl := of_decide_eq_true h5
      obtain ⟨nm, bs, mro, ns, q, hd, sn, sub, ab, col, del⟩ := cd
      dsimp only at hm h4 h6
      subst hm
      obtain rfl : hd = true := h4
      obtain rfl : del = false := by simpa using h6
      refine ⟨nm, q, ns, bs, bm, sn, sub, ab, col, dd, k0, k1, k2, k3, k5, ?_, g2⟩
      rw [hl]
      have : sl = #[k0, k1, k2, k3, some (.builtin "ValueError.__new__"), k5] := Array.toList_inj.mp (by rw [hs])
      rw [this]
    · cases h2
  · cases h
def fnB (fd : FuncData) : Bool := decide (fd.globals = mainGlobals) && decide (fd.builtins = builtinsNs) && (match fd.params with
  | ⟨[], [a0, a1], none, [], [], none, _⟩ => a0.arg == "self" && a1.arg == "value"
  | _ => false)
def dflB (K : PySem.W.Frag) (fd : FuncData) : Bool := match fd.defaults with
  | .ref T => (match K.lookup T with
    | some ⟨_, _, .seq its _, _⟩ => decide (its.toList = [.none])
    | _ => false)
  | _ => false
def codB (prog : Program) (K : PySem.W.Frag) (fd : FuncData) : Bool := PySem.W.codeIn K fd.code fd.qualname && (match fd.code with
  | .ref c => (match K.lookup c with
    | some ⟨_, _, .fields vs, _⟩ => (match (vs[2]? : Option Value) with
      | some (Value.str file _) => (prog.main.file : Str) == file
      | _ => false)
    | _ => false)
  | _ => false)
def cloB (K : PySem.W.Frag) (C : Addr) (fd : FuncData) : Bool := match fd.closure with
  | [(y, cc)] => y == "__class__" && (match K.lookup cc with
    | some ⟨_, _, .cell (some (.ref D)), _⟩ => decide (D = C)
    | _ => false)
  | _ => false
def bodB : FuncBody → Bool
  | .stmts [.Expr (.Call (.Attribute (.Call (.Name s _) [] [] _) m p2) [.Name v _] [] p4) _, .Assign [.Attribute (.Name z _) f _] (.Name v2 _) _] =>
    s == "super" && m == "__init__" && v == "value" && z == "self" && f == "value" && v2 == "value" && p2.endLine == p4.line
  | _ => false
theorem bodB_ok {b : FuncBody} (h : bodB b = true) : ∃ p0 p1 p2 p3 p4 p5 p6 p7 p8 p9, b = .stmts [.Expr (.Call (.Attribute (.Call (.Name "super" p0) [] [] p1) "__init__" p2) [.Name "value" p3] [] p4) p5, .Assign [.Attribute (.Name "self" p6) "value" p7] (.Name "value" p8) p9] ∧ (p2.endLine == p4.line) = true := by
  unfold bodB at h
  split at h
  · simp only [Bool.and_eq_true, beq_iff_eq] at h
    obtain ⟨⟨⟨⟨⟨⟨w1, w2⟩, w3⟩, w4⟩, w5⟩, w6⟩, w7⟩ := h
    subst w1 w2 w3 w4 w5 w6
    exact ⟨_, _, _, _, _, _, _, _, _, _, rfl, beq_iff_eq.mpr w7⟩
  · cases h
def iniB (prog : Program) (K : PySem.W.Frag) (C : Addr) : Bool :=
  clsB K C && decide (PySem.W.findIn K (.ref C) "__setattr__" = some (some (.builtin "object.__setattr__"))) && decide (PySem.W.subIn K (.ref C) (.type "BaseException") = some true) && decide (PySem.W.typeIn K (.ref C) = some (.type "type")) && PySem.W.keepIn K (.ref C) &&
  decide (PySem.W.findIn K (.ref C) "value" = some none) && decide (PySem.W.mroIn K C (.ref C) = some true) && decide (PySem.W.subIn K (.ref C) (.type "ValueError") = some true) && decide (PySem.W.ks_superIn K C C "__init__" = some (some (.builtin "ValueError.__init__"))) &&
  (match PySem.W.findIn K (.ref C) "__init__" with
  | some (some (.ref fI)) => decide (PySem.W.typeIn K (.ref fI) = some (.type "function")) && (match K.lookup fI with
    | some ⟨_, _, .func fd, _⟩ => fnB fd && dflB K fd && codB prog K fd && cloB K C fd && bodB fd.body && NdefX.nscB ["self", "value", "__class__"] ["self", "value"] ["__class__"] fd.scope && decide (fd.scope.names.lookup ("super" : Str) = some .globalImplicit)
    | _ => false)
  | _ => false)
theorem iniB_ok {prog : Program} {K : PySem.W.Frag} {mg : Str → Option Value} {base : Heap} {C : Addr} (h : iniB prog K C = true) (hm : mg "super" = none) (ht : (prog.main.scope.names.lookup ("super" : Str)).isSome = false) (ho : ∃ K1 : PySem.W.Frag, K1.In base ∧ PySem.W.nsIn K1 cStatics "thirdparty.any" = some none) :
    ∃ fI cc F, IniF prog K mg base C fI cc F := by
  unfold iniB at h
  obtain ⟨h, h10⟩ := bb h
  obtain ⟨h, h9⟩ := bb h
  obtain ⟨h, h8⟩ := bb h
  obtain ⟨h, h7⟩ := bb h
  obtain ⟨h, h6⟩ := bb h
  obtain ⟨h, h5⟩ := bb h
  obtain ⟨h, h4⟩ := bb h
  obtain ⟨h, h3⟩ := bb h
  obtain ⟨h1, h2⟩ := bb h
  split at h10
  · rename_i fI hfI
    obtain ⟨t1, t2⟩ := bb h10
    split at t2
    · rename_i oc od fd osl lk
      obtain ⟨t2, t8⟩ := bb t2
      obtain ⟨t2, t7⟩ := bb t2
      obtain ⟨t2, t6⟩ := bb t2
      obtain ⟨t2, t5⟩ := bb t2
      obtain ⟨t2, t4⟩ := bb t2
      obtain ⟨t2, t3⟩ := bb t2
      obtain ⟨fn, qn, params, body, scope, gl, clo, dfl, kwd, doc, pm, an, code, ct, bl⟩ := fd
      unfold fnB at t2
      obtain ⟨t2, u3⟩ := bb t2
      obtain ⟨u1, u2⟩ := bb t2
      obtain rfl : gl = mainGlobals := of_decide_eq_true u1
      obtain rfl : bl = builtinsNs := of_decide_eq_true u2
      split at u3
      · rename_i a0 a1 dx hp
        obtain rfl : params = _ := hp
        obtain ⟨n0, x0, y0⟩ := a0
        obtain ⟨n1, x1, y1⟩ := a1
        obtain ⟨v1, v2⟩ := bb u3
        obtain rfl : n0 = "self" := eq_of_beq v1
        obtain rfl : n1 = "value" := eq_of_beq v2
        obtain ⟨p0, p1, p2, p3, p4, p5, p6, p7, p8, p9, hb1, hb2⟩ := bodB_ok t6
        obtain rfl : body = _ := hb1
        · skip
          unfold codB at t4
          obtain ⟨c1, c2⟩ := bb t4
          split at c2
          · rename_i c hc
            obtain rfl : code = .ref c := hc
            unfold cloB at t5
            split at t5
            · rename_i y cc hcl
              obtain rfl : clo = [(y, cc)] := hcl
              obtain ⟨d1, d2⟩ := bb t5
              obtain rfl : y = "__class__" := eq_of_beq d1
              unfold dflB at t3
              split at t3
              · rename_i T hT
                obtain rfl : dfl = .ref T := hT
                split at t3
                · rename_i qc qd its qn' qs lT
                  have ei : its.toList = [.none] := of_decide_eq_true t3
                  split at c2
                  · rename_i ccl cdd cvs ccs lc
                    split at c2
                    · rename_i file tf hv
                      split at d2
                      · rename_i cl cld D csl lcc
                        obtain rfl : D = C := of_decide_eq_true d2
                        refine ⟨fI, cc, ⟨fn, qn, ⟨[], [⟨"self", x0, y0⟩, ⟨"value", x1, y1⟩], none, [], [], none, dx⟩, _, scope, [("__class__", cc)], c⟩, ⟨clsB_ok h1, of_decide_eq_true h2, of_decide_eq_true h3, of_decide_eq_true h4, h5⟩, hfI, of_decide_eq_true t1, of_decide_eq_true h6, ⟨oc, od, osl, .ref T, kwd, doc, pm, an, ct, lk, ?_⟩, rfl, c1, ⟨ccl, cdd, cvs, ccs, file, tf, lc, hv, c2⟩, ⟨cl, cld, csl, lcc⟩, ⟨⟨"self", x0, y0⟩, rfl, rfl⟩,
                          of_decide_eq_true h7, of_decide_eq_true h8, of_decide_eq_true h9, ho, hm, ht, NdefX.nscope_by t7, of_decide_eq_true t8, ⟨_, _, _, _, _, _, _, _, _, _, rfl, hb2⟩⟩
                        intro s us hK hl
                        rw [List.append_nil] at hl ⊢
                        match us, hl with
                        | [u1, u2], _ =>
                          obtain ⟨il⟩ := its
                          obtain rfl : il = [.none] := ei
                          exact BindsTo.of_defaults (T := T) rfl (hK _ _ lT) rfl rfl rfl
                      · cases d2
                    · cases c2
                  · cases c2
                · cases t3
              · cases t3
            · cases t5
          · cases c2
      · cases u3
    · cases t2
  · cases h10
end RX
/-! RXe: >= of pairs of ints. -/
namespace RX
open L2 PySem PySem.Spec PyProof.Rows
def geP (i j k l : Int) : Bool := if i = k then decide (l ≤ j) else decide (k ≤ i)
def rGeP (K : PySem.W.Frag) : R2 := fun x y H Q => ∃ (a b : Addr) (i j k l : Int), x = .ref a ∧ y = .ref b ∧ SqT K H a [V.int i, V.int j] ∧ SqT K H b [V.int k, V.int l] ∧ Q (.bl (geP i j k l)) H
theorem two {i j : Int} {its : List Value} (r : Vals [V.int i, V.int j] its) : ∃ v1 v2, its = [v1, v2] ∧ (∃ t, v1 = .int i t) ∧ ∃ t, v2 = .int j t := by
  cases r with
  | cons q1 r =>
    cases r with
    | cons q2 r =>
      cases r
      exact ⟨_, _, rfl, q1, q2⟩
theorem lex2 {e0 e1 r0 r1 : Bool} : Ob.lexAt (fun n => match n with | 0 => e0 | _ => e1) (fun n => match n with | 0 => r0 | _ => r1) true 0 2 = if e0 = true then (if e1 = true then true else r1) else r0 := rfl
theorem op_geP {X : Cx} (hu : X.A.units < cLine) : OpR X (compareOp .GtE) (rGeP X.K) := by
  intro pins s σ H x y v u Q I rx ry h
  obtain ⟨a, b, i, j, k, l, rfl, rfl, ha, hb, q⟩ := h
  obtain rfl : v = Value.ref a := rx
  obtain rfl : u = Value.ref b := ry
  obtain ⟨its, r1, p1, _⟩ := I.tuple ha
  obtain ⟨its2, r2, p2, _⟩ := I.tuple hb
  obtain ⟨v1, v2, rfl, ⟨t1, rfl⟩, ⟨t2, rfl⟩⟩ := two r1
  obtain ⟨u1, u2, rfl, ⟨t3, rfl⟩, ⟨t4, rfl⟩⟩ := two r2
  · skip
    have eqi : ∀ (m n : Int) (t t' : Tok), SeqAt.EqAt X.A.in1 s (.int m t) (.int n t') (decide (m = n)) := fun m n t t' => by
      have z : (m == n) = decide (m = n) := by
        by_cases q : m = n
        · rw [decide_eq_true q]; exact beq_iff_eq.mpr q
        · rw [decide_eq_false q]; exact beq_eq_false_iff_ne.mpr q
      rw [← z]
      exact SeqAt.EqAt.int_int _ _ _ _
    have R := Ob.RcOp.tuples_ge (A := X.A) (s := s) (e := fun n => match n with | 0 => decide (i = k) | _ => decide (j = l)) (r := fun n => match n with | 0 => decide (k ≤ i) | _ => decide (l ≤ j)) p1 p2 hu (fun n h1 h2 => by
      match n, h1, h2 with
      | 0, _, _ => exact eqi _ _ _ _
      | 1, _, _ => exact eqi _ _ _ _
      | n + 2, h1, _ => (simp at h1; omega)) (fun n h1 h2 _ => by
      match n, h1, h2 with
      | 0, _, _ => exact Ob.RcOp.ge_int _ _ _ _
      | 1, _, _ => exact Ob.RcOp.ge_int _ _ _ _
      | n + 2, h1, _ => (simp at h1; omega))
    have e : (if decide (i = k) = true then (if decide (j = l) = true then true else decide (l ≤ j)) else decide (k ≤ i)) = geP i j k l := by
      unfold geP
      by_cases h1 : i = k
      · by_cases h2 : j = l
        · simp [h1, h2]
        · simp [h1, h2]
      · simp [h1]
    refine R X.prog X.w X.xe (EP X pins σ Q) ⟨.bl _, H, I, ?_, q⟩
    rw [← e]
    exact congrArg Value.bool lex2
end RX
/-! RFa: values, the little language, its evaluator. -/
namespace RF
open PySem
/-! ### values -/
inductive D where
  | non | bl (b : Bool) | int (i : Int) | str (s : Str)
  | lst (ds : List D) | tup (ds : List D)
  | scr (ns : List Int)
  | fn (f : Nat)
  | obj (c : Nat) (ds : List D)
  | exc (c : Nat) (ds : List D)
  | clo (k : Nat) (ds : List D)
  deriving Inhabited
/-- a value of which some lists are owned -/
inductive O where
  | z (d : D) | l (os : List O) | t (os : List O)
  deriving Inhabited
mutual
def O.toD : O → D
  | .z d => d
  | .l os => .lst (O.toDs os)
  | .t os => .tup (O.toDs os)
def O.toDs : List O → List D
  | [] => []
  | o :: os => o.toD :: O.toDs os
end
theorem O.toDs_map : ∀ os : List O, O.toDs os = os.map O.toD
  | [] => by simp [O.toDs]
  | o :: os => by simp [O.toDs, O.toDs_map os]
mutual
/-- no list within -/
def D.lf : D → Bool
  | .lst _ => false
  | .obj _ _ => false
  | .exc _ _ => false
  | .clo _ _ => false
  | .scr _ => false
  | .tup ds => D.lfs ds
  | _ => true
def D.lfs : List D → Bool
  | [] => true
  | d :: ds => d.lf && D.lfs ds
end
theorem D.lfs_all : ∀ ds : List D, D.lfs ds = ds.all D.lf
  | [] => by simp [D.lfs]
  | d :: ds => by simp [D.lfs, D.lfs_all ds]
mutual
/-- what may be shared with others is no list -/
def O.clean : O → Bool
  | .z d => d.lf
  | .l os => O.cleans os
  | .t os => O.cleans os
def O.cleans : List O → Bool
  | [] => true
  | o :: os => o.clean && O.cleans os
end
theorem O.cleans_all : ∀ os : List O, O.cleans os = os.all O.clean
  | [] => by simp [O.cleans]
  | o :: os => by simp [O.cleans, O.cleans_all os]
mutual
def D.py : D → PyData
  | .non => .none
  | .bl b => .bool b
  | .int i => .int i
  | .str s => .str s
  | .lst ds => .list (D.pys ds)
  | .tup ds => .tuple (D.pys ds)
  | .scr _ => .dict []
  | .fn _ => .dict []
  | .obj _ _ => .dict []
  | .exc _ _ => .dict []
  | .clo _ _ => .dict []
def D.pys : List D → List PyData
  | [] => []
  | d :: ds => d.py :: D.pys ds
end
theorem D.pys_map : ∀ ds : List D, D.pys ds = ds.map D.py
  | [] => by simp [D.pys]
  | d :: ds => by simp [D.pys, D.pys_map ds]
/-- data of a depth of at most n -/
def D.ok : Nat → D → Bool
  | _, .non => true
  | _, .bl _ => true
  | _, .int _ => true
  | _, .str x => PyData.strOk x
  | n + 1, .lst ds => ds.all (D.ok n)
  | n + 1, .tup ds => ds.all (D.ok n)
  | _, _ => false
def D.eqv (a b : D) : Bool := PyData.eqv a.py b.py
/-! ### the language -/
inductive Bop where | add | sub | mul | fdiv | mod | pow
  deriving DecidableEq, Repr
inductive Cop where | eq | ne | lt | le | gt | ge | mem | nmem | is | isn
  deriving DecidableEq, Repr
inductive Ty where | int | bool | str | list | tuple | lt
  deriving DecidableEq, Repr
inductive Blt where | len | abs | sum | max1 | min1 | max2 | min2 | int | list | tuple | sorted | all | str | repr
  deriving DecidableEq, Repr
inductive Tg where
  | nm (i : Nat) | tp (is : List Nat)
  deriving DecidableEq, Repr
mutual
inductive X where
  | v (i : Nat)
  | non | tt (b : Bool) | n (i : Int) | s (x : Str)
  | g (f : Nat) | gk (j : Nat) (i : Int) | lam (f : Nat) (is : List Nat)
  | tup (es : Xs) | lst (es : Xs)
  | bin (o : Bop) (a b : X)
  | neg (a : X)
  | cmp (o : Cop) (a b : X)
  | cmp2 (o p : Cop) (a b c : X)
  | and (es : Xs) | or (es : Xs) | not (a : X)
  | ite (c a b : X)
  | ix (a i : X)
  | sl (a : X) (lo hi : Xo)
  | rev (a : X)
  | call (p : Bool) (f : Nat) (es : Xs)
  | callk (f : Nat) (es ks : Xs) (perm : List Nat)
  | callv (i : Nat) (es : Xs)
  | blt (b : Blt) (es : Xs)
  | lrange (it : It)
  | isi (t : Ty) (a : X)
  | bits (a : X)
  | comp (elt : X) (t : Tg) (it : It) (c : Xo) (own : List Nat)
  | pop (i : Nat) | popAt (i : Nat) (k : X)
  | attr (i : Nat) | isc (c i : Nat) | idx (i : Nat) (b : X) | ix2 (i : Nat) (a b : X)
inductive Xs where
  | nil | cons (e : X) (es : Xs)
inductive Xo where
  | none | some (e : X)
inductive It where
  | seq (a : X) | rng1 (a : X) | rng2 (a b : X) | rng3 (a b c : X) | enum (a : X)
end
mutual
inductive S where
  | set (i : Nat) (e : X)
  | asg (is : List Nat) (e : X)
  | par (is : List Nat) (es : Xs)
  | sto (i : Nat) (k e : X)
  | app (i : Nat) (e : X)
  | expr (e : X)
  | ret (e : X) | ret0
  | ite (c : X) (a b : Ss)
  | for (t : Tg) (it : It) (b : Ss)
  | whl (c : X) (b : Ss)
  | pass
  | never
  | raise (c : Nat) (e : X)
  | tryE (i j : Nat) (e : X)
inductive Ss where
  | nil | cons (s : S) (r : Ss)
end
/-! ### results -/
abbrev Env := List (Option O)
inductive R (α : Type) where
  | ok (a : α) (env : Env) | ex (c : Nat) (ds : List D) | no
  deriving Inhabited
def R.bind {α β : Type} (r : R α) (f : α → Env → R β) : R β := match r with
  | .ok a env => f a env
  | .ex c ds => .ex c ds
  | .no => .no
/-- no exception leaves -/
def R.nox {α : Type} : R α → R α
  | .ok a env => .ok a env
  | _ => .no
@[simp] theorem R.nox_ok {α : Type} (a : α) (env : Env) : (R.ok a env).nox = .ok a env := rfl
@[simp] theorem R.bind_ok {α β : Type} (a : α) (env : Env) (f : α → Env → R β) : (R.ok a env).bind f = f a env := rfl
@[simp] theorem R.bind_ex {α β : Type} (c : Nat) (ds : List D) (f : α → Env → R β) : (R.ex c ds).bind f = .ex c ds := rfl
@[simp] theorem R.bind_no {α β : Type} (f : α → Env → R β) : (R.no).bind f = .no := rfl
/-- a call's end -/
inductive CR where
  | rt (o : O) (outs : List O) | ex (c : Nat) (ds : List D) | no
  deriving Inhabited
inductive Out where
  | nx (env : Env) | rt (o : O) (env : Env) | ex (c : Nat) (ds : List D) | no
  deriving Inhabited
structure Cfg where
  call : Nat → List O → CR
  sig : Nat → List Bool
/-! ### operators -/
def mulOk (i j : Int) : Bool := decide (i.natAbs.log2 + j.natAbs.log2 < 1000000)
def divOk (j : Int) : Bool := decide (j ≠ 0) && decide (j.natAbs.log2 < 9000)
def powOk (i j : Int) : Bool := decide (0 ≤ j) && decide (i.natAbs.log2 + 1 ≤ 3000) && decide (j ≤ 3000)
def lenOk {α : Type} (xs : List α) : Bool := decide (xs.length < 2 ^ 20)
def binop : Bop → D → D → Option O
  | .add, .int i, .int j => some (.z (.int (i + j)))
  | .add, .lst xs, .lst ys => if lenOk xs && lenOk ys then some (.l ((xs ++ ys).map .z)) else none
  | .sub, .int i, .int j => some (.z (.int (i - j)))
  | .mul, .int i, .int j => if mulOk i j then some (.z (.int (i * j))) else none
  | .mul, .lst xs, .int k => if decide (xs.length < 1024) && decide (k < 1024) && decide (-1024 < k) then some (.l ((List.replicate k.toNat xs).flatten.map .z)) else none
  | .fdiv, .int i, .int j => if divOk j then some (.z (.int (i.fdiv j))) else none
  | .mod, .int i, .int j => if decide (j ≠ 0) then some (.z (.int (i.fmod j))) else none
  | .pow, .int i, .int j => if powOk i j then some (.z (.int (i ^ j.toNat))) else none
  | _, _, _ => none
def ints? : List D → Option (List Int)
  | [] => some []
  | .int i :: ds => (ints? ds).map (i :: ·)
  | _ => none
def bls? : List D → Option (List Bool)
  | [] => some []
  | .bl i :: ds => (bls? ds).map (i :: ·)
  | _ => none
/-- tuples of ints as lists of ints -/
def tupInts? : D → Option (List Int)
  | .tup ds => ints? ds
  | _ => none
def D.isNon : D → Bool
  | .non => true
  | _ => false
def D.isBl (b : Bool) : D → Bool
  | .bl c => b == c
  | _ => false
def cmpop : Cop → D → D → Option Bool
  | .eq, a, b => if a.ok 60 && b.ok 60 then some (D.eqv a b) else none
  | .ne, a, b => if a.ok 60 && b.ok 60 then some (!D.eqv a b) else none
  | .lt, .int i, .int j => some (decide (i < j))
  | .lt, a, b => (tupInts? a).bind fun x => (tupInts? b).map fun y => HT.lexLt x y
  | .le, .int i, .int j => some (decide (i ≤ j))
  | .gt, .int i, .int j => some (decide (j < i))
  | .ge, .int i, .int j => some (decide (j ≤ i))
  | .ge, .tup [.int i, .int j], .tup [.int k, .int l] => some (RX.geP i j k l)
  | .mem, a, .lst ds => if a.ok 60 && (D.lst ds).ok 60 then some (ds.any fun z => D.eqv z a) else none
  | .nmem, a, .lst ds => if a.ok 60 && (D.lst ds).ok 60 then some (!ds.any fun z => D.eqv z a) else none
  | .is, a, .non => some a.isNon
  | .is, a, .bl b => some (a.isBl b)
  | .isn, a, .non => some (!a.isNon)
  | .isn, a, .bl b => some (!a.isBl b)
  | _, _, _ => none
def isiV : Ty → D → Option Bool
  | _, .fn _ => none
  | _, .obj _ _ => none
  | _, .exc _ _ => none
  | _, .clo _ _ => none
  | _, .scr _ => none
  | .int, .int _ => some true
  | .int, .bl _ => some true
  | .int, _ => some false
  | .bool, .bl _ => some true
  | .bool, _ => some false
  | .str, .str _ => some true
  | .str, _ => some false
  | .list, .lst _ => some true
  | .list, _ => some false
  | .tuple, .tup _ => some true
  | .tuple, _ => some false
  | .lt, .lst _ => some true
  | .lt, .tup _ => some true
  | .lt, _ => some false
def reprOk (d : D) : Bool := d.ok 60 && (d.py.showable && !d.py.hasDict) && decide (d.py.shown.length + 64 ≤ sizeLine)
/-- the first place of k -/
def idxI (ds : List D) (k : Int) : Option Nat := (ints? ds).bind fun ns => if k ∈ ns then some (ns.idxOf k) else none
def bltV : Blt → List D → Option O
  | .len, [.lst ds] => some (.z (.int ds.length))
  | .len, [.tup ds] => some (.z (.int ds.length))
  | .len, [.scr ds] => some (.z (.int ds.length))
  | .abs, [.int i] => some (.z (.int (if i < 0 then -i else i)))
  | .sum, [.lst ds] => (ints? ds).map fun ns => .z (.int ns.sum)
  | .max2, [.int i, .int j] => some (.z (.int (if j > i then j else i)))
  | .min2, [.int i, .int j] => some (.z (.int (if j < i then j else i)))
  | .max1, [.lst ds] => (ints? ds).bind fun ns => (ns.max?).map fun m => .z (.int m)
  | .min1, [.lst ds] => (ints? ds).bind fun ns => (ns.min?).map fun m => .z (.int m)
  | .int, [.int i] => some (.z (.int i))
  | .int, [.bl k] => some (.z (.int (if k then 1 else 0)))
  | .list, [.lst ds] => some (.l (ds.map .z))
  | .list, [.tup ds] => some (.l (ds.map .z))
  | .tuple, [.lst ds] => some (.z (.tup ds))
  | .all, [.lst ds] => (bls? ds).map fun bs => .z (.bl (bs.all id))
  | .repr, [.lst ds] => if reprOk (.lst ds) then some (.z (.str (D.lst ds).py.shown)) else none
  | _, _ => none
/-- the whole numbers from lo on, n of them, by st -/
def rangeL (lo st : Int) : Nat → List D
  | 0 => []
  | n + 1 => .int lo :: rangeL (lo + st) st n
def rngOk (i : Int) : Bool := decide (-(2 ^ 40) < i) && decide (i < 2 ^ 40)
def enumL (k : Nat) : List D → List D
  | [] => []
  | d :: ds => .tup [.int k, d] :: enumL (k + 1) ds
/-- the items of a slice -/
def cutL {α : Type} (xs : List α) (lo hi : Option Int) : List α := (xs.drop (HT.sIx xs.length 0 lo)).take (HT.sIx xs.length xs.length hi - HT.sIx xs.length 0 lo)
/-! ### environments -/
def getE (env : Env) (i : Nat) : Option O := (env[i]?).join
def frz (o : O) : O := .z o.toD
/-- the slots is of new as in old -/
def restore (old new : Env) : List Nat → Env
  | [] => new
  | i :: is => (restore old new is).set i ((old[i]?).join)
def wipeE (env : Env) : List Nat → Env
  | [] => env
  | i :: is => (wipeE env is).set i none
def setAll (env : Env) : List Nat → List O → Option Env
  | [], [] => some env
  | i :: is, o :: os => setAll (env.set i (some o)) is os
  | _, _ => none
/-- items that a target of several names takes -/
def items? : O → Option (List O)
  | .z (.tup ds) => some (ds.map .z)
  | .t os => some os
  | _ => none
def tgE (t : Tg) (o : O) (env : Env) : Option Env := match t with
  | .nm i => some (env.set i (some o))
  | .tp is => (items? o).bind fun os => setAll env is os
def owned? : O → Option (List O)
  | .l os => some os
  | _ => none
/-- what a lambda keeps of its maker's slots -/
def caps? (env : Env) : List Nat → Option (List D)
  | [] => some []
  | i :: is => match getE env i with
    | some (.z d) => (caps? env is).map (d :: ·)
    | _ => none
def intD : D → Option Int
  | .int i => some i
  | _ => none
def ofOpt {α : Type} (o : Option α) (env : Env) : R α := match o with
  | some a => .ok a env
  | none => .no
@[simp] theorem ofOpt_some {α : Type} (a : α) (env : Env) : ofOpt (some a) env = .ok a env := rfl
@[simp] theorem ofOpt_none {α : Type} (env : Env) : ofOpt (none : Option α) env = .no := rfl
def O.isZ : O → Bool
  | .z _ => true
  | _ => false
/-- an argument: a value, or the owned list of a slot -/
inductive Ar where
  | val (d : D) | ref (i : Nat)
  deriving Inhabited
def Ar.slots : List Ar → List Nat
  | [] => []
  | .val _ :: r => Ar.slots r
  | .ref i :: r => i :: Ar.slots r
def Ar.fetch (env : Env) : List Ar → Option (List O)
  | [] => some []
  | .val d :: r => (Ar.fetch env r).map (.z d :: ·)
  | .ref i :: r => match getE env i with
    | some (.l os) => if os.all O.isZ then (Ar.fetch env r).map (.l os :: ·) else none
    | _ => none
def Ar.isRef : Ar → Bool
  | .val _ => false
  | .ref _ => true
/-- behind a call -/
def back0 (p : Bool) (old new : Env) : CR → R O
  | .rt o [] => if p && o.clean then .ok o old else .ok o new
  | .rt _ _ => .no
  | .ex c ds => .ex c ds
  | .no => .no
def back1 (new : Env) (i : Nat) : CR → R O
  | .rt o [.l us] => .ok o (new.set i (some (.l us)))
  | .rt _ _ => .no
  | .ex c ds => .ex c ds
  | .no => .no
def doCall (C : Cfg) (p : Bool) (f : Nat) (old new : Env) (as : List Ar) : R O :=
  if as.map Ar.isRef = C.sig f then
    match Ar.fetch new as with
    | some os => match Ar.slots as with
      | [] => back0 p old new (C.call f os)
      | [i] => if p then .no else back1 new i (C.call f os)
      | _ => .no
    | none => .no
  else .no
/-- the values in the parameters' order -/
def permA (os us : List O) (perm : List Nat) : List Ar := perm.map fun j => .val ((os ++ us).getD j (.z .non)).toD
/-! ### the evaluator -/
/-! nothing that stood there is changed -/
mutual
def pureX : X → Bool
  | .tup es => pureXs es
  | .lst es => pureXs es
  | .bin _ a b => pureX a && pureX b
  | .neg a => pureX a
  | .cmp _ a b => pureX a && pureX b
  | .cmp2 _ _ a b c => pureX a && pureX b && pureX c
  | .and es => pureXs es
  | .or es => pureXs es
  | .not a => pureX a
  | .ite c a b => pureX c && pureX a && pureX b
  | .ix a i => pureX a && pureX i
  | .sl a lo hi => pureX a && pureXo lo && pureXo hi
  | .rev a => pureX a
  | .call p _ es => p && pureXs es
  | .callk _ es ks _ => pureXs es && pureXs ks
  | .callv _ es => pureXs es
  | .blt _ es => pureXs es
  | .lrange it => pureIt it
  | .isi _ a => pureX a
  | .bits a => pureX a
  | .comp elt _ it c _ => pureX elt && pureIt it && pureXo c
  | .pop _ => false
  | .popAt _ _ => false
  | .lam _ _ => false
  | .idx _ b => pureX b
  | .ix2 _ a b => pureX a && pureX b
  | _ => true
def pureXs : Xs → Bool
  | .nil => true
  | .cons e es => pureX e && pureXs es
def pureXo : Xo → Bool
  | .none => true
  | .some e => pureX e
def pureIt : It → Bool
  | .seq a => pureX a
  | .rng1 a => pureX a
  | .rng2 a b => pureX a && pureX b
  | .rng3 a b c => pureX a && pureX b && pureX c
  | .enum a => pureX a
end
def O.flat : O → Bool
  | .z _ => true
  | .l os => os.all O.isZ
  | .t os => os.all O.isZ
/-- a value that is only looked at; pu: nothing is changed before it is used -/
def viewE (pu : Bool) (a : X) (r : R O) (env : Env) : R D := match a with
  | .v i => match getE env i with
    | some (.z d) => .ok d env
    | some o => if pu && o.flat then .ok o.toD env else r.bind fun o env1 => .ok o.toD env1
    | none => .no
  | _ => r.bind fun o env1 => .ok o.toD env1
/-- a list in a slot, looked at -/
def seen (env : Env) (i : Nat) : R D := match getE env i with
  | some (.z d) => .ok d env
  | some o => if o.flat then .ok o.toD env else .no
  | none => .no
/-- an item of an item, no list within -/
def ix1V : D → Int → Option D
  | .lst ds, j => L2.atI ds j
  | .tup ds, j => L2.atI ds j
  | _, _ => none
def ix1L (e : D) (k : Int) : Option D := (ix1V e k).bind fun x => if x.lf then some x else none
def evalComp (elt : Env → R O) (t : Tg) (cond : Env → R O) (own : List Nat) : List D → Env → List O → R (List O)
  | [], env, acc => .ok acc env
  | d :: ds, env, acc => match tgE t (.z d) env with
    | some env1 => (cond env1).nox.bind fun x env2 => match x with
      | .z (.bl true) => if lenOk acc then (elt env2).nox.bind fun o env3 => evalComp elt t cond own ds (wipeE env3 own) (acc ++ [o]) else .no
      | .z (.bl false) => evalComp elt t cond own ds (wipeE env2 own) acc
      | _ => .no
    | none => .no
mutual
def evalE (C : Cfg) : X → Env → R O
  | .v i, env => match getE env i with
    | some (.z d) => .ok (.z d) env
    | some o => .ok (frz o) (env.set i (some (frz o)))
    | none => .no
  | .non, env => .ok (.z .non) env
  | .tt b, env => .ok (.z (.bl b)) env
  | .n i, env => .ok (.z (.int i)) env
  | .s x, env => .ok (.z (.str x)) env
  | .g f, env => .ok (.z (.fn f)) env
  | .gk _ i, env => .ok (.z (.int i)) env
  | .lam f is, env => ofOpt ((caps? env is).map fun ds => .z (.clo f ds)) env
  | .tup es, env => (evalEs C es env).bind fun os env1 => .ok (if os.all O.isZ then .z (.tup (O.toDs os)) else .t os) env1
  | .lst es, env => (evalEs C es env).bind fun os env1 => .ok (.l os) env1
  | .bin o a b, env => (viewE (pureX b) a (evalE C a env) env).bind fun x env1 => (viewE true b (evalE C b env1) env1).bind fun y env2 => ofOpt (binop o x y) env2
  | .neg a, env => (evalE C a env).bind fun x env1 => match x with
    | .z (.int i) => .ok (.z (.int (-i))) env1
    | _ => .no
  | .cmp o a b, env => (viewE (pureX b) a (evalE C a env) env).bind fun x env1 => (viewE true b (evalE C b env1) env1).bind fun y env2 => ofOpt ((cmpop o x y).map fun b => .z (.bl b)) env2
  | .cmp2 o p a b c, env => (viewE (pureX b) a (evalE C a env) env).bind fun x env1 => (viewE (pureX c) b (evalE C b env1) env1).bind fun y env2 => match cmpop o x y with
    | some false => .ok (.z (.bl false)) env2
    | some true => (viewE true c (evalE C c env2) env2).bind fun w env3 => ofOpt ((cmpop p y w).map fun b => .z (.bl b)) env3
    | none => .no
  | .and es, env => evalAnd C es env
  | .or es, env => evalOr C es env
  | .not a, env => (evalE C a env).bind fun x env1 => match x with
    | .z (.bl b) => .ok (.z (.bl (!b))) env1
    | _ => .no
  | .ite c a b, env => (evalE C c env).bind fun x env1 => match x with
    | .z (.bl true) => evalE C a env1
    | .z (.bl false) => evalE C b env1
    | _ => .no
  | .ix a i, env => (viewE (pureX i) a (evalE C a env) env).bind fun x env1 => (evalE C i env1).bind fun k env2 => match x, k with
    | .lst ds, .z (.int j) => ofOpt ((L2.atI ds j).map .z) env2
    | .tup ds, .z (.int j) => ofOpt ((L2.atI ds j).map .z) env2
    | .scr ns, .z (.int j) => ofOpt ((L2.atI ns j).map fun n => .z (.int n)) env2
    | _, _ => .no
  | .sl a lo hi, env => (viewE (pureXo lo && pureXo hi) a (evalE C a env) env).bind fun x env1 => (evalPart C lo env1).bind fun l env2 => (evalPart C hi env2).bind fun h env3 => match x with
    | .lst ds => .ok (.l ((cutL ds l h).map .z)) env3
    | .scr ns => .ok (.l ((cutL ns l h).map fun n => .z (.int n))) env3
    | _ => .no
  | .rev a, env => (viewE true a (evalE C a env) env).bind fun x env1 => match x with
    | .lst ds => .ok (.l (ds.reverse.map .z)) env1
    | _ => .no
  | .call p f es, env => (evalArgs C es (C.sig f) env).bind fun as env1 => doCall C p f env env1 as
  | .callk f es ks perm, env => (evalEs C es env).bind fun os env1 => (evalEs C ks env1).bind fun us env2 =>
      doCall C true f env env2 (permA os us perm)
  | .callv i es, env => match getE env i with
    | some (.z (.fn f)) => (evalArgs C es (C.sig f) env).bind fun as env1 => doCall C true f env env1 as
    | some (.z (.clo f ds)) => (evalArgs C es ((C.sig f).drop ds.length) env).bind fun as env1 => doCall C true f env env1 (ds.map .val ++ as)
    | _ => .no
  | .blt b es, env => (evalVs C es env).bind fun ds env1 => ofOpt (bltV b ds) env1
  | .attr i, env => match getE env i with
    | some (.z (.exc _ [d])) => .ok (.z d) env
    | _ => .no
  | .isc c i, env => match getE env i with
    | some (.z (.exc k [_])) => .ok (.z (.bl (k == c))) env
    | _ => .no
  | .idx i b, env => (seen env i).bind fun x env1 => match x with
    | .lst ds => (evalE C b env1).bind fun y env2 => match y with
      | .z (.int k) => ofOpt ((idxI ds k).map fun j => .z (.int (j : Nat))) env2
      | _ => .no
    | _ => .no
  | .ix2 i a b, env => match getE env i with
    | some o => (evalE C a env).bind fun x env1 => match x with
      | .z (.int j) => match ix1V o.toD j with
        | some e => (evalE C b env1).bind fun y env2 => match y with
          | .z (.int k) => ofOpt ((ix1L e k).map .z) env2
          | _ => .no
        | none => .no
      | _ => .no
    | none => .no
  | .lrange it, env => (evalIt C it env).bind fun ds env1 => if lenOk ds then .ok (.l (ds.map .z)) env1 else .no
  | .isi t a, env => (viewE true a (evalE C a env) env).bind fun x env1 => ofOpt ((isiV t x).map fun b => .z (.bl b)) env1
  | .bits a, env => (evalE C a env).bind fun x env1 => match x with
    | .z (.int i) => .ok (.z (.int (Builtin.Int.intBits i))) env1
    | _ => .no
  | .comp elt t it c own, env => (evalIt C it env).bind fun ds env1 =>
      (evalComp (fun e => evalE C elt e) t (fun e => evalCond C c e) own ds (wipeE env1 own) []).bind fun os env2 =>
        .ok (.l os) (if (pureX elt && pureIt it && pureXo c) && O.cleans os then env else restore env1 env2 own)
  | .pop i, env => match getE env i with
    | some (.l os) => match os[os.length - 1]? with
      | some o => .ok o (env.set i (some (.l os.dropLast)))
      | none => .no
    | _ => .no
  | .popAt i k, env => match getE env i with
    | some (.l _) => (evalE C k env).bind fun x env1 => match x, getE env1 i with
      | .z (.int j), some (.l os) => match (if lenOk os then L2.ixN os.length j else none) with
        | some q => match os[q]? with
          | some o => .ok o (env1.set i (some (.l (os.eraseIdx q))))
          | none => .no
        | none => .no
      | _, _ => .no
    | _ => .no
def evalEs (C : Cfg) : Xs → Env → R (List O)
  | .nil, env => .ok [] env
  | .cons e es, env => (evalE C e env).bind fun o env1 => (evalEs C es env1).bind fun os env2 => .ok (o :: os) env2
def evalVs (C : Cfg) : Xs → Env → R (List D)
  | .nil, env => .ok [] env
  | .cons e es, env => (viewE (pureXs es) e (evalE C e env) env).bind fun o env1 => (evalVs C es env1).bind fun os env2 => .ok (o :: os) env2
def evalAnd (C : Cfg) : Xs → Env → R O
  | .nil, _ => .no
  | .cons e .nil, env => evalE C e env
  | .cons e es, env => (evalE C e env).bind fun x env1 => match x with
    | .z (.bl true) => evalAnd C es env1
    | .z (.bl false) => .ok (.z (.bl false)) env1
    | _ => .no
def evalOr (C : Cfg) : Xs → Env → R O
  | .nil, _ => .no
  | .cons e .nil, env => evalE C e env
  | .cons e es, env => (evalE C e env).bind fun x env1 => match x with
    | .z (.bl false) => evalOr C es env1
    | .z (.bl true) => .ok (.z (.bl true)) env1
    | _ => .no
def evalPart (C : Cfg) : Xo → Env → R (Option Int)
  | .none, env => .ok none env
  | .some e, env => (evalE C e env).bind fun o env1 => match o with
    | .z (.int i) => .ok (some i) env1
    | _ => .no
def evalCond (C : Cfg) : Xo → Env → R O
  | .none, env => .ok (.z (.bl true)) env
  | .some e, env => evalE C e env
def evalArgs (C : Cfg) : Xs → List Bool → Env → R (List Ar)
  | .nil, ms, env => match ms with
    | [] => .ok [] env
    | _ => .no
  | .cons e es, ms, env => match ms with
    | [] => .no
    | false :: ms => (evalE C e env).bind fun o env1 => (evalArgs C es ms env1).bind fun as env2 => .ok (.val o.toD :: as) env2
    | true :: ms => match e with
      | .v i => match getE env i with
        | some _ => (evalArgs C es ms env).bind fun as env2 => .ok (.ref i :: as) env2
        | none => .no
      | _ => .no
/-- the items that a loop walks -/
def evalIt (C : Cfg) : It → Env → R (List D)
  | .seq a, env => (evalE C a env).bind fun o env1 => match o.toD with
    | .lst ds => .ok ds env1
    | .tup ds => .ok ds env1
    | _ => .no
  | .rng1 a, env => (evalE C a env).bind fun o env1 => match o with
    | .z (.int n) => if rngOk n then .ok (rangeL 0 1 n.toNat) env1 else .no
    | _ => .no
  | .rng2 a b, env => (evalE C a env).bind fun o env1 => (evalE C b env1).bind fun u env2 => match o, u with
    | .z (.int m), .z (.int n) => if rngOk m && rngOk n then .ok (rangeL m 1 (n - m).toNat) env2 else .no
    | _, _ => .no
  | .rng3 a b c, env => .no
  | .enum a, env => (evalE C a env).bind fun o env1 => match o.toD with
    | .lst ds => .ok (enumL 0 ds) env1
    | _ => .no
end
def Out.ofR (r : R O) (f : O → Env → Out) : Out := match r with
  | .ok o env => f o env
  | .ex c ds => .ex c ds
  | .no => .no
@[simp] theorem Out.ofR_ok (o : O) (env : Env) (f : O → Env → Out) : Out.ofR (.ok o env) f = f o env := rfl
def evalFor (t : Tg) (body : Env → Out) : List D → Env → Out
  | [], env => .nx env
  | d :: ds, env => match tgE t (.z d) env with
    | some env1 => match body env1 with
      | .nx env2 => evalFor t body ds env2
      | r => r
    | none => .no
def evalWhile (test : Env → R O) (body : Env → Out) : Nat → Env → Out
  | 0, _ => .no
  | n + 1, env => Out.ofR (test env) fun x env1 => match x with
    | .z (.bl true) => match body env1 with
      | .nx env2 => evalWhile test body n env2
      | r => r
    | .z (.bl false) => .nx env1
    | _ => .no
/-- what stands for good -/
def stay (env : Env) : Env := env.map fun | some (.z d) => some (.z d) | _ => none
def Out.ofO (o : Option Env) : Out := match o with
  | some e => .nx e
  | none => .no
mutual
def evalS (C : Cfg) (W : Nat) : S → Env → Out
  | .set i e, env => Out.ofR (evalE C e env) fun o env1 => .nx (env1.set i (some o))
  | .asg is e, env => Out.ofR (evalE C e env) fun o env1 => Out.ofO (tgE (.tp is) o env1)
  | .par is es, env => match evalEs C es env with
    | .ok os env1 => Out.ofO (setAll env1 is os)
    | .ex c ds => .ex c ds
    | .no => .no
  | .sto i k e, env => Out.ofR (evalE C e env) fun o env1 => match getE env1 i with
    | some (.l _) => Out.ofR (evalE C k env1) fun x env2 => match x, getE env2 i with
      | .z (.int j), some (.l os) => match L2.ixN os.length j with
        | some q => .nx (env2.set i (some (.l (os.set q o))))
        | none => .no
      | _, _ => .no
    | _ => .no
  | .app i e, env => match getE env i with
    | some (.l _) => Out.ofR (evalE C e env) fun o env1 => match getE env1 i with
      | some (.l os) => if lenOk os then .nx (env1.set i (some (.l (os ++ [o])))) else .no
      | _ => .no
    | _ => .no
  | .expr e, env => Out.ofR (evalE C e env) fun _ env1 => .nx env1
  | .ret (.v i), env => match getE env i with
    | some o => .rt o (env.set i none)
    | none => .no
  | .ret e, env => Out.ofR (evalE C e env) fun o env1 => .rt o env1
  | .ret0, env => .rt (.z .non) env
  | .ite c a b, env => Out.ofR (evalE C c env) fun x env1 => match x with
    | .z (.bl true) => evalSs C W a env1
    | .z (.bl false) => evalSs C W b env1
    | _ => .no
  | .for t it b, env => match evalIt C it env with
    | .ok ds env1 => evalFor t (fun e => evalSs C W b e) ds env1
    | .ex c ds => .ex c ds
    | .no => .no
  | .whl c b, env => evalWhile (fun e => evalE C c e) (fun e => evalSs C W b e) W env
  | .pass, env => .nx env
  | .never, _ => .no
  | .raise c e, env => Out.ofR (evalE C e env) fun o _ => .ex c [o.toD]
  | .tryE i j e, env => match evalE C e env with
    | .ok _ env1 => .nx env1
    | .ex c [d] => .nx (((stay env).set j (some (.z (.exc c [d])))).set i none)
    | _ => .no
def evalSs (C : Cfg) (W : Nat) : Ss → Env → Out
  | .nil, env => .nx env
  | .cons s r, env => match evalS C W s env with
    | .nx env1 => evalSs C W r env1
    | o => o
end
/-! ### defs -/
structure Fd where
  modes : List Bool
  slots : Nat
  body : Ss
/-- the owned parameters behind a call -/
def outs? (env : Env) : List Bool → Nat → Option (List O)
  | [], _ => some []
  | false :: ms, i => outs? env ms (i + 1)
  | true :: ms, i => match getE env i with
    | some (.l os) => (outs? env ms (i + 1)).map (.l os :: ·)
    | _ => none
def finish (ms : List Bool) : Out → CR
  | .nx env => match outs? env ms 0 with
    | some outs => .rt (.z .non) outs
    | none => .no
  | .rt o env => match outs? env ms 0 with
    | some outs => .rt o outs
    | none => .no
  | .ex c ds => .ex c ds
  | .no => .no
def runF (C : Cfg) (W : Nat) (F : Fd) (os : List O) : CR :=
  if os.length = F.modes.length then finish F.modes (evalSs C W F.body (os.map some ++ List.replicate (F.slots - os.length) none)) else .no
/-- calls within calls, to a depth -/
def G (T : Nat → Option Fd) (W : Nat) : Nat → Nat → List O → CR
  | 0, _, _ => .no
  | n + 1, f, os => match T f with
    | some F => runF ⟨G T W n, fun g => match T g with | some F => F.modes | none => []⟩ W F os
    | none => .no
def sigT (T : Nat → Option Fd) (g : Nat) : List Bool := match T g with | some F => F.modes | none => []
def cfg (T : Nat → Option Fd) (W n : Nat) : Cfg := ⟨G T W n, sigT T⟩
end RF
/-! RFb: how values stand in the heap. -/
namespace RF
open L2 PySem PySem.Spec PyProof.Rows
/-- what is fixed of a lambda -/
structure LamD where
  qual : Str
  params : Arguments
  body : Expr
  scope : Scope
/-- where the defs of the text stand; which lambdas bear which number -/
structure Fns where
  at_ : Nat → Option Addr
  ml : Nat → LamD → Prop
  ca : Nat → Option Addr
instance : CoeFun Fns (fun _ => Nat → Option Addr) := ⟨Fns.at_⟩
abbrev LamD.fd (L : LamD) (c : Addr) (pm ctv : Value) : FuncData := PySem.W.kla_fn "<lambda>" L.qual L.params L.body L.scope [] pm (.ref c) ctv
/-- the object at f is this lambda -/
def LamO (f c : Addr) (L : LamD) (pm ctv : Value) : HO := .ext fun h => ∃ (od : Option Addr) (sl : Array (Option Value)), h.get? f = some (⟨.type "function", od, .func (L.fd c pm ctv), sl⟩ : Obj)
mutual
inductive Rep (K : PySem.W.Frag) (FA : Fns) (F : Hp) : V → D → Prop
  | non : Rep K FA F .non .non
  | bl (b : Bool) : Rep K FA F (.bl b) (.bl b)
  | int (i : Int) : Rep K FA F (.int i) (.int i)
  | str (x : Str) : Rep K FA F (.str x) (.str x)
  | lst {a : Addr} {vs : List V} {ds : List D} : F a = some (.lst vs) → Reps K FA F vs ds → Rep K FA F (.ref a) (.lst ds)
  | tup {a : Addr} {vs : List V} {ds : List D} : F a = some (.tup vs) → Reps K FA F vs ds → Rep K FA F (.ref a) (.tup ds)
  | scr {a : Addr} {ns : List Int} : SqL K F a (ns.map V.int) → Rep K FA F (.ref a) (.scr ns)
  | fn {f : Nat} {a : Addr} : FA f = some a → Rep K FA F (.ref a) (.fn f)
  | clo {k : Nat} {f c : Addr} {L : LamD} {pm ctv : Value} : FA.ml k L → F f = some (LamO f c L pm ctv) → F c = some (LamX.CodeO c L.qual) → Rep K FA F (.ref f) (.clo k [])
  | exc {c : Nat} {a C dx : Addr} {v : V} {d : D} : FA.ca c = some C → F a = some (RX.exk (.ref C) (some dx) a) → F dx = some (.xd [("value", v)]) → Rep K FA F v d → Rep K FA F (.ref a) (.exc c [d])
inductive Reps (K : PySem.W.Frag) (FA : Fns) (F : Hp) : List V → List D → Prop
  | nil : Reps K FA F [] []
  | cons {v : V} {vs : List V} {d : D} {ds : List D} : Rep K FA F v d → Reps K FA F vs ds → Reps K FA F (v :: vs) (d :: ds)
end
mutual
inductive RepO (K : PySem.W.Frag) (FA : Fns) (F H : Hp) : V → O → List Addr → Prop
  | z {v : V} {d : D} : Rep K FA F v d → RepO K FA F H v (.z d) []
  | l {a : Addr} {vs : List V} {os : List O} {A : List Addr} : H a = some (.lst vs) → RepOs K FA F H vs os A → RepO K FA F H (.ref a) (.l os) (a :: A)
  | t {a : Addr} {vs : List V} {os : List O} {A : List Addr} : H a = some (.tup vs) → RepOs K FA F H vs os A → RepO K FA F H (.ref a) (.t os) A
inductive RepOs (K : PySem.W.Frag) (FA : Fns) (F H : Hp) : List V → List O → List Addr → Prop
  | nil : RepOs K FA F H [] [] []
  | cons {v : V} {vs : List V} {o : O} {os : List O} {A B : List Addr} : RepO K FA F H v o A → RepOs K FA F H vs os B → RepOs K FA F H (v :: vs) (o :: os) (A ++ B)
end
inductive RepL (K : PySem.W.Frag) (FA : Fns) (F H : Hp) : List (Option V × O) → List Addr → Prop
  | nil : RepL K FA F H [] []
  | cons {v : V} {o : O} {ps : List (Option V × O)} {A B : List Addr} : RepO K FA F H v o A → RepL K FA F H ps B → RepL K FA F H ((some v, o) :: ps) (A ++ B)
def Sub (F H : Hp) : Prop := ∀ a o, F a = some o → H a = some o
theorem Sub.refl (F : Hp) : Sub F F := fun _ _ h => h
theorem Sub.trans {F G H : Hp} (a : Sub F G) (b : Sub G H) : Sub F H := fun c o h => b c o (a c o h)
/-- the tuples stay -/
def Tups (H H' : Hp) : Prop := ∀ a xs, H a = some (.tup xs) → H' a = some (.tup xs)
theorem Sub.tups {H H' : Hp} (h : Sub H H') : Tups H H' := fun a xs e => h a _ e
section
variable {K : PySem.W.Frag} {FA : Fns} {F F' H H' : Hp}
theorem SqL.sub {a : Addr} {xs : List V} (s : Sub F F') (h : SqL K F a xs) : SqL K F' a xs := by
  rcases h with (h | ⟨o, h⟩) | h
  · exact .inl (.inl (s _ _ h))
  · exact .inl (.inr ⟨o, s _ _ h⟩)
  · exact .inr h
mutual
theorem Rep.mono (s : Sub F F') : ∀ {d : D} {v : V}, Rep K FA F v d → Rep K FA F' v d
  | _, _, .non => .non
  | _, _, .bl b => .bl b
  | _, _, .int i => .int i
  | _, _, .str x => .str x
  | _, _, .lst h r => .lst (s _ _ h) (Reps.mono s r)
  | _, _, .tup h r => .tup (s _ _ h) (Reps.mono s r)
  | _, _, .scr h => .scr (SqL.sub s h)
  | _, _, .fn h => .fn h
  | _, _, .clo h1 h2 h3 => .clo h1 (s _ _ h2) (s _ _ h3)
  | _, _, .exc h1 h2 h3 r => .exc h1 (s _ _ h2) (s _ _ h3) (Rep.mono s r)
theorem Reps.mono (s : Sub F F') : ∀ {ds : List D} {vs : List V}, Reps K FA F vs ds → Reps K FA F' vs ds
  | _, _, .nil => .nil
  | _, _, .cons h r => .cons (Rep.mono s h) (Reps.mono s r)
end
mutual
/-- where no list is within, the tuples are enough -/
theorem Rep.lf (t : Tups F F') : ∀ {d : D} {v : V}, d.lf = true → Rep K FA F v d → Rep K FA F' v d
  | _, _, _, .non => .non
  | _, _, _, .bl b => .bl b
  | _, _, _, .int i => .int i
  | _, _, _, .str x => .str x
  | _, _, e, .lst h r => by simp [D.lf] at e
  | _, _, e, .tup h r => .tup (t _ _ h) (Reps.lf t (by simpa [D.lf] using e) r)
  | _, _, e, .scr h => by simp [D.lf] at e
  | _, _, _, .fn h => .fn h
theorem Reps.lf (t : Tups F F') : ∀ {ds : List D} {vs : List V}, D.lfs ds = true → Reps K FA F vs ds → Reps K FA F' vs ds
  | _, _, _, .nil => .nil
  | _, _, e, .cons h r => by
    have e' := by simpa [D.lfs] using e
    exact .cons (Rep.lf t e'.1 h) (Reps.lf t e'.2 r)
end
theorem Reps.length : ∀ {ds : List D} {vs : List V}, Reps K FA F vs ds → vs.length = ds.length
  | _, _, .nil => rfl
  | _, _, .cons _ r => by simp [r.length]
theorem Reps.get {d : D} : ∀ {ds : List D} {vs : List V} {i : Nat}, Reps K FA F vs ds → ds[i]? = some d → ∃ v, vs[i]? = some v ∧ Rep K FA F v d
  | _, _, _, .nil, e => by simp at e
  | _, _, 0, .cons h r, e => by simp at e; subst e; exact ⟨_, rfl, h⟩
  | _, _, i + 1, .cons h r, e => by
    obtain ⟨v, e1, h1⟩ := Reps.get (i := i) r (by simpa using e)
    exact ⟨v, by simpa using e1, h1⟩
theorem Reps.append : ∀ {ds es : List D} {vs us : List V}, Reps K FA F vs ds → Reps K FA F us es → Reps K FA F (vs ++ us) (ds ++ es)
  | _, _, _, _, .nil, s => s
  | _, _, _, _, .cons h r, s => .cons h (Reps.append r s)
theorem Reps.take : ∀ {ds : List D} {vs : List V} (n : Nat), Reps K FA F vs ds → Reps K FA F (vs.take n) (ds.take n)
  | _, _, 0, _ => .nil
  | _, _, _ + 1, .nil => .nil
  | _, _, n + 1, .cons h r => .cons h (Reps.take n r)
theorem Reps.drop : ∀ {ds : List D} {vs : List V} (n : Nat), Reps K FA F vs ds → Reps K FA F (vs.drop n) (ds.drop n)
  | _, _, 0, r => r
  | _, _, _ + 1, .nil => .nil
  | _, _, n + 1, .cons _ r => Reps.drop n r
theorem Reps.reverse : ∀ {ds : List D} {vs : List V}, Reps K FA F vs ds → Reps K FA F vs.reverse ds.reverse
  | _, _, .nil => .nil
  | _, _, .cons h r => by simp only [List.reverse_cons]; exact Reps.append r.reverse (.cons h .nil)
theorem Reps.rep {ds : List D} {vs : List V} (h : Reps K FA F vs ds) : ∀ k : Nat, Reps K FA F (List.replicate k vs).flatten (List.replicate k ds).flatten
  | 0 => .nil
  | k + 1 => by simp only [List.replicate_succ, List.flatten_cons]; exact Reps.append h (h.rep k)
theorem Reps.ints : ∀ {ns : List Int}, Reps K FA F (ns.map V.int) (ns.map D.int)
  | [] => .nil
  | _ :: _ => .cons (.int _) Reps.ints
theorem Reps.of_ints {vs : List V} : ∀ {ds : List D} {ns : List Int}, Reps K FA F vs ds → ints? ds = some ns → vs = ns.map V.int ∧ ds = ns.map D.int := by
  induction vs with
  | nil => intro ds ns r e; cases r; simp [ints?] at e; subst e; exact ⟨rfl, rfl⟩
  | cons v vs ih =>
    intro ds ns r e
    cases r with
    | cons h r =>
      rename_i d ds
      cases h <;> simp [ints?] at e
      obtain ⟨ms, e1, rfl⟩ := e
      obtain ⟨h1, h2⟩ := ih r e1
      exact ⟨by rw [h1]; rfl, by rw [h2]; rfl⟩
theorem Reps.of_bls {vs : List V} : ∀ {ds : List D} {ns : List Bool}, Reps K FA F vs ds → bls? ds = some ns → vs = ns.map V.bl := by
  induction vs with
  | nil => intro ds ns r e; cases r; simp [bls?] at e; subst e; rfl
  | cons v vs ih =>
    intro ds ns r e
    cases r with
    | cons h r =>
      rename_i d ds
      cases h <;> simp [bls?] at e
      obtain ⟨ms, e1, rfl⟩ := e
      rw [ih r e1]; rfl
mutual
theorem RepO.frame : ∀ {o : O} {v : V} {A : List Addr}, RepO K FA F H v o A → Sub F F' → (∀ a ∈ A, H' a = H a) → Tups H H' → RepO K FA F' H' v o A
  | _, _, _, .z h, s, _, _ => .z (h.mono s)
  | _, _, _, .l h r, s, k, t => .l (by rw [k _ (List.mem_cons_self)]; exact h) (RepOs.frame r s (fun a m => k a (List.mem_cons_of_mem _ m)) t)
  | _, _, _, .t h r, s, k, t => .t (t _ _ h) (RepOs.frame r s k t)
theorem RepOs.frame : ∀ {os : List O} {vs : List V} {A : List Addr}, RepOs K FA F H vs os A → Sub F F' → (∀ a ∈ A, H' a = H a) → Tups H H' → RepOs K FA F' H' vs os A
  | _, _, _, .nil, _, _, _ => .nil
  | _, _, _, .cons h r, s, k, t => .cons (RepO.frame h s (fun a m => k a (List.mem_append_left _ m)) t) (RepOs.frame r s (fun a m => k a (List.mem_append_right _ m)) t)
end
theorem RepL.frame : ∀ {ps : List (Option V × O)} {A : List Addr}, RepL K FA F H ps A → Sub F F' → (∀ a ∈ A, H' a = H a) → Tups H H' → RepL K FA F' H' ps A
  | _, _, .nil, _, _, _ => .nil
  | _, _, .cons h r, s, k, t => .cons (RepO.frame h s (fun a m => k a (List.mem_append_left _ m)) t) (RepL.frame r s (fun a m => k a (List.mem_append_right _ m)) t)
mutual
/-- the owned addresses stand in the heap -/
theorem RepO.dom : ∀ {o : O} {v : V} {A : List Addr}, RepO K FA F H v o A → ∀ a ∈ A, ∃ xs, H a = some (.lst xs)
  | _, _, _, .z _, a, m => by cases m
  | _, _, _, .l h r, a, m => by
    rcases List.mem_cons.mp m with e | m
    · exact ⟨_, by rw [e]; exact h⟩
    · exact RepOs.dom r a m
  | _, _, _, .t _ r, a, m => RepOs.dom r a m
theorem RepOs.dom : ∀ {os : List O} {vs : List V} {A : List Addr}, RepOs K FA F H vs os A → ∀ a ∈ A, ∃ xs, H a = some (.lst xs)
  | _, _, _, .nil, a, m => by cases m
  | _, _, _, .cons h r, a, m => (List.mem_append.mp m).elim (RepO.dom h a) (RepOs.dom r a)
end
theorem RepL.dom : ∀ {ps : List (Option V × O)} {A : List Addr}, RepL K FA F H ps A → ∀ a ∈ A, ∃ xs, H a = some (.lst xs)
  | _, _, .nil, a, m => by cases m
  | _, _, .cons h r, a, m => (List.mem_append.mp m).elim (RepO.dom h a) (RepL.dom r a)
mutual
/-- seen as it lies in the whole heap -/
theorem RepO.view (s : Sub F H) : ∀ {o : O} {v : V} {A : List Addr}, RepO K FA F H v o A → Rep K FA H v o.toD
  | _, _, _, .z h => by simp only [O.toD]; exact h.mono s
  | _, _, _, .l h r => by simp only [O.toD]; exact .lst h (RepOs.view s r)
  | _, _, _, .t h r => by simp only [O.toD]; exact .tup h (RepOs.view s r)
theorem RepOs.view (s : Sub F H) : ∀ {os : List O} {vs : List V} {A : List Addr}, RepOs K FA F H vs os A → Reps K FA H vs (O.toDs os)
  | _, _, _, .nil => by simp only [O.toDs]; exact .nil
  | _, _, _, .cons h r => by simp only [O.toDs]; exact .cons (RepO.view s h) (RepOs.view s r)
end
/-- the part of the heap that stands for good, with these addresses too -/
def addF (F H : Hp) (A : List Addr) : Hp := fun a => if a ∈ A then H a else F a
theorem addF_sub (s : Sub F H) {A : List Addr} : Sub F (addF F H A) := fun a o e => by
  unfold addF
  split
  · exact s a o e
  · exact e
theorem addF_subH (s : Sub F H) {A : List Addr} : Sub (addF F H A) H := fun a o e => by
  unfold addF at e
  split at e
  · exact e
  · exact s a o e
theorem addF_mono {A B : List Addr} (s : Sub F H) (h : ∀ a ∈ A, a ∈ B) : Sub (addF F H A) (addF F H B) := fun a o e => by
  unfold addF at e ⊢
  split at e
  · rename_i m; rw [if_pos (h a m)]; exact e
  · split
    · exact s a o e
    · exact e
mutual
theorem RepO.frozen (s : Sub F H) (t : Tups H F) : ∀ {o : O} {v : V} {A : List Addr}, RepO K FA F H v o A → Rep K FA (addF F H A) v o.toD
  | _, _, _, .z h => by simp only [O.toD]; exact h.mono (addF_sub s)
  | _, _, _, .l (a := a) h r => by
    simp only [O.toD]
    refine .lst (by unfold addF; rw [if_pos (List.mem_cons_self)]; exact h) ((RepOs.frozen s t r).mono (addF_mono s fun b m => List.mem_cons_of_mem _ m))
  | _, _, _, .t h r => by simp only [O.toD]; exact .tup (addF_sub s _ _ (t _ _ h)) (RepOs.frozen s t r)
theorem RepOs.frozen (s : Sub F H) (t : Tups H F) : ∀ {os : List O} {vs : List V} {A : List Addr}, RepOs K FA F H vs os A → Reps K FA (addF F H A) vs (O.toDs os)
  | _, _, _, .nil => by simp only [O.toDs]; exact .nil
  | _, _, _, .cons h r => by
    simp only [O.toDs]
    exact .cons ((RepO.frozen s t h).mono (addF_mono s fun b m => List.mem_append_left _ m)) ((RepOs.frozen s t r).mono (addF_mono s fun b m => List.mem_append_right _ m))
end
mutual
theorem RepO.clean (t : Tups F F') : ∀ {o : O} {v : V} {A : List Addr}, o.clean = true → RepO K FA F H v o A → RepO K FA F' H v o A
  | _, _, _, e, .z h => .z (h.lf t (by simpa [O.clean] using e))
  | _, _, _, e, .l h r => .l h (RepOs.clean t (by simpa [O.clean] using e) r)
  | _, _, _, e, .t h r => .t h (RepOs.clean t (by simpa [O.clean] using e) r)
theorem RepOs.clean (t : Tups F F') : ∀ {os : List O} {vs : List V} {A : List Addr}, O.cleans os = true → RepOs K FA F H vs os A → RepOs K FA F' H vs os A
  | _, _, _, _, .nil => .nil
  | _, _, _, e, .cons h r => by
    have e' := by simpa [O.cleans] using e
    exact .cons (RepO.clean t e'.1 h) (RepOs.clean t e'.2 r)
end
theorem RepOs.length : ∀ {os : List O} {vs : List V} {A : List Addr}, RepOs K FA F H vs os A → vs.length = os.length
  | _, _, _, .nil => rfl
  | _, _, _, .cons _ r => by simp [r.length]
/-- values only -/
theorem RepOs.of_reps : ∀ {ds : List D} {vs : List V}, Reps K FA F vs ds → RepOs K FA F H vs (ds.map .z) []
  | _, _, .nil => .nil
  | _, _, .cons h r => RepOs.cons (A := []) (.z h) (RepOs.of_reps r)
theorem RepOs.allZ : ∀ {os : List O} {vs : List V} {A : List Addr}, RepOs K FA F H vs os A → os.all O.isZ = true → A = [] ∧ Reps K FA F vs (O.toDs os)
  | _, _, _, .nil, _ => ⟨rfl, by simp only [O.toDs]; exact .nil⟩
  | _, _, _, .cons h r, e => by
    have e' := by simpa only [List.all_cons, Bool.and_eq_true] using e
    cases h with
    | z h =>
      obtain ⟨e1, e2⟩ := r.allZ e'.2
      subst e1
      exact ⟨rfl, by simp only [O.toDs, O.toD]; exact .cons h e2⟩
    | l _ _ => simp [O.isZ] at e'
    | t _ _ => simp [O.isZ] at e'
mutual
theorem RepO.uniq : ∀ {o : O} {v : V} {A B : List Addr}, RepO K FA F H v o A → RepO K FA F H v o B → A = B
  | _, _, _, _, .z _, .z _ => rfl
  | _, _, _, _, .l h r, .l h' r' => by
    rw [h] at h'; cases h'
    rw [RepOs.uniq r r']
  | _, _, _, _, .t h r, .t h' r' => by
    rw [h] at h'; cases h'
    exact RepOs.uniq r r'
theorem RepOs.uniq : ∀ {os : List O} {vs : List V} {A B : List Addr}, RepOs K FA F H vs os A → RepOs K FA F H vs os B → A = B
  | _, _, _, _, .nil, .nil => rfl
  | _, _, _, _, .cons h r, .cons h' r' => by rw [RepO.uniq h h', RepOs.uniq r r']
end
theorem RepL.uniq : ∀ {ps : List (Option V × O)} {A B : List Addr}, RepL K FA F H ps A → RepL K FA F H ps B → A = B
  | _, _, _, .nil, .nil => rfl
  | _, _, _, .cons h r, .cons h' r' => by rw [RepO.uniq h h', RepL.uniq r r']
theorem RepOs.append : ∀ {os us : List O} {vs ws : List V} {A B : List Addr}, RepOs K FA F H vs os A → RepOs K FA F H ws us B → RepOs K FA F H (vs ++ ws) (os ++ us) (A ++ B)
  | _, _, _, _, _, _, .nil, s => s
  | _, _, _, _, _, _, .cons h r, s => by
    rw [List.append_assoc]
    exact .cons h (RepOs.append r s)
/-- an item taken out -/
theorem RepOs.pick {o : O} : ∀ {os : List O} {vs : List V} {A : List Addr} {i : Nat}, RepOs K FA F H vs os A → os[i]? = some o →
    ∃ v Ao Ar, vs[i]? = some v ∧ RepO K FA F H v o Ao ∧ RepOs K FA F H (vs.eraseIdx i) (os.eraseIdx i) Ar ∧ A.Perm (Ao ++ Ar)
  | _, _, _, _, .nil, e => by simp at e
  | _, _, _, 0, .cons h r, e => by
    simp at e; subst e
    exact ⟨_, _, _, rfl, h, by simpa using r, .refl _⟩
  | _, _, _, i + 1, .cons (A := A1) h r, e => by
    obtain ⟨v, Ao, Ar, e1, h1, r1, p⟩ := RepOs.pick (i := i) r (by simpa using e)
    refine ⟨v, Ao, A1 ++ Ar, by simpa using e1, h1, by simpa using RepOs.cons h r1, ?_⟩
    refine (p.append_left A1).trans ?_
    rw [← List.append_assoc, ← List.append_assoc]
    exact List.perm_append_comm.append_right Ar
/-- an item put in the place of another -/
theorem RepOs.set {v : V} {o : O} {Ao : List Addr} (h : RepO K FA F H v o Ao) : ∀ {os : List O} {vs : List V} {A : List Addr} {i : Nat}, RepOs K FA F H vs os A → i < os.length →
    ∃ Ar, RepOs K FA F H (vs.set i v) (os.set i o) (Ar) ∧ ∃ Ad, (Ad ++ Ar).Perm (Ao ++ A)
  | _, _, _, _, .nil, e => by simp at e
  | _, _, _, 0, .cons (A := A1) (B := B1) h1 r, e => ⟨Ao ++ B1, by simpa using RepOs.cons h r, A1, by
      rw [← List.append_assoc, ← List.append_assoc]; exact List.perm_append_comm.append_right B1⟩
  | _, _, _, i + 1, .cons (A := A1) (B := B1) h1 r, e => by
    obtain ⟨Ar, r1, Ad, p⟩ := RepOs.set h (i := i) r (by simpa using e)
    refine ⟨A1 ++ Ar, by simpa using RepOs.cons h1 r1, Ad, ?_⟩
    have q1 : (Ad ++ (A1 ++ Ar)).Perm (A1 ++ (Ad ++ Ar)) := by
      rw [← List.append_assoc, ← List.append_assoc]; exact List.perm_append_comm.append_right Ar
    have q2 : (A1 ++ (Ao ++ B1)).Perm (Ao ++ (A1 ++ B1)) := by
      rw [← List.append_assoc, ← List.append_assoc]; exact List.perm_append_comm.append_right B1
    exact q1.trans ((p.append_left A1).trans q2)
theorem RepL.perm {ps qs : List (Option V × O)} (p : ps.Perm qs) : ∀ {A : List Addr}, RepL K FA F H ps A → ∃ B, RepL K FA F H qs B ∧ A.Perm B := by
  induction p with
  | nil => intro A h; exact ⟨_, h, .refl _⟩
  | cons x _ ih =>
    intro A h
    cases h with
    | cons h r =>
      obtain ⟨B, r', p⟩ := ih r
      exact ⟨_, .cons h r', p.append_left _⟩
  | swap x y l =>
    intro A h
    cases h with
    | cons h r =>
      cases r with
      | cons h' r =>
        refine ⟨_, .cons h' (.cons h r), ?_⟩
        rw [← List.append_assoc, ← List.append_assoc]
        exact List.perm_append_comm.append_right _
  | trans _ _ ih1 ih2 =>
    intro A h
    obtain ⟨B, h1, p1⟩ := ih1 h
    obtain ⟨C, h2, p2⟩ := ih2 h1
    exact ⟨C, h2, p1.trans p2⟩
theorem RepL.of_os : ∀ {os : List O} {vs : List V} {A B : List Addr} {ps : List (Option V × O)}, RepOs K FA F H vs os A → RepL K FA F H ps B → RepL K FA F H (((vs.map some).zip os) ++ ps) (A ++ B)
  | _, _, _, _, _, .nil, s => s
  | _, _, _, _, _, .cons h r, s => by
    rw [List.append_assoc]
    exact .cons h (RepL.of_os r s)
theorem RepL.to_os : ∀ {os : List O} {vs : List V} {C : List Addr} {ps : List (Option V × O)}, vs.length = os.length → RepL K FA F H (((vs.map some).zip os) ++ ps) C →
    ∃ A B, C = A ++ B ∧ RepOs K FA F H vs os A ∧ RepL K FA F H ps B
  | [], [], _, _, _, s => ⟨[], _, rfl, .nil, s⟩
  | o :: os, v :: vs, _, _, e, s => by
    cases s with
    | cons h r =>
      obtain ⟨A, B, rfl, r1, r2⟩ := RepL.to_os (by simpa using e) r
      exact ⟨_, B, by rw [List.append_assoc], .cons h r1, r2⟩
  | [], _ :: _, _, _, e, _ => by simp at e
  | _ :: _, [], _, _, e, _ => by simp at e
end
/-! ### the state of a frame -/
/-- at the entry: the heap, the owned lists that were handed in, the part that stands for good -/
structure W0 where
  H0 : Hp
  M : List Addr
  F0 : Hp
  T : List (Addr × Str)
structure HR (w : W0) (F H : Hp) : Prop where
  sub : Sub F H
  sub0 : Sub w.F0 F
  new : ∀ a o, F a = some o → w.F0 a = some o ∨ w.H0 a = none ∨ a ∈ w.M ∨ (w.H0 a = some o ∧ ∀ xs, o ≠ .lst xs)
  keep : ∀ a o, w.H0 a = some o → a ∉ w.M → H a = some o
  dom : ∀ a, H a = none → w.H0 a = none
  tups : Tups H F
  tabs : LamX.Tabs w.T H
  ntb : ∀ a ps, F a ≠ some (.tbl ps)
def Hs (K : PySem.W.Frag) (FA : Fns) (w : W0) (F H : Hp) (ps : List (Option V × O)) : Prop :=
  HR w F H ∧ ∃ A, RepL K FA F H ps A ∧ A.Nodup ∧ ∀ a ∈ A, F a = none ∧ (a ∈ w.M ∨ w.H0 a = none)
/-- the slots -/
def lv (σ : L2.St) (env : Env) : List (Option V × O) := (σ.zip env).filterMap fun p => p.2.map fun o => (p.1, o)
section
variable {K : PySem.W.Frag} {FA : Fns} {w : W0} {F F' H H' : Hp} {ps qs : List (Option V × O)} {v : V} {o : O} {d : D}
theorem Hs.perm (p : ps.Perm qs) (s : Hs K FA w F H ps) : Hs K FA w F H qs := by
  obtain ⟨hr, A, r, nd, q⟩ := s
  obtain ⟨B, r', p'⟩ := r.perm p
  exact ⟨hr, B, r', p'.nodup_iff.mp nd, fun a m => q a (p'.mem_iff.mpr m)⟩
theorem Hs.tail {p : Option V × O} (s : Hs K FA w F H (p :: ps)) : Hs K FA w F H ps := by
  obtain ⟨hr, A, r, nd, q⟩ := s
  cases r with
  | cons h r => exact ⟨hr, _, r, (List.nodup_append.mp nd).2.1, fun a m => q a (List.mem_append_right _ m)⟩
theorem Hs.head (s : Hs K FA w F H ((some v, o) :: ps)) : ∃ A, RepO K FA F H v o A := by
  obtain ⟨hr, A, r, nd, q⟩ := s
  cases r with
  | cons h r => exact ⟨_, h⟩
theorem Hs.isSome {u : Option V} (s : Hs K FA w F H ((u, o) :: ps)) : ∃ v, u = Option.some v := by
  obtain ⟨hr, A, r, nd, q⟩ := s
  cases r
  exact ⟨_, rfl⟩
theorem Hs.rep (s : Hs K FA w F H ((some v, .z d) :: ps)) : Rep K FA F v d := by
  obtain ⟨A, h⟩ := s.head
  cases h
  assumption
theorem Hs.view (s : Hs K FA w F H ((some v, o) :: ps)) : Rep K FA H v o.toD := by
  obtain ⟨A, h⟩ := s.head
  exact h.view s.1.sub
theorem Hs.add (s : Hs K FA w F H ps) (h : Rep K FA F v d) : Hs K FA w F H ((some v, .z d) :: ps) := by
  obtain ⟨hr, A, r, nd, q⟩ := s
  exact ⟨hr, A, RepL.cons (A := []) (.z h) r, nd, q⟩
theorem Tabs.stay {T : List (Addr × Str)} (t : LamX.Tabs T H) (e : ∀ b o, H b = some o → (∀ xs, o ≠ .lst xs) → H' b = some o) : LamX.Tabs T H' := fun p hp => by
  obtain ⟨ps, h1, h2, h3⟩ := t p hp
  refine ⟨ps, e _ _ h1 (fun xs z => by cases z), h2, fun pos cv hc => ?_⟩
  obtain ⟨c, e1, e2⟩ := h3 pos cv hc
  exact ⟨c, e1, e _ _ e2 (fun xs z => by unfold LamX.CodeO at z; cases z)⟩
/-- what is owned stands for good from now on -/
theorem Hs.freeze (s : Hs K FA w F H ((some v, o) :: ps)) : ∃ F', Sub F F' ∧ Hs K FA w F' H ((some v, frz o) :: ps) := by
  obtain ⟨hr, A, r, nd, q⟩ := s
  cases r with
  | cons h r =>
    rename_i A B
    have nd' := List.nodup_append.mp nd
    refine ⟨addF F H A, addF_sub hr.sub, ⟨addF_subH hr.sub, hr.sub0.trans (addF_sub hr.sub), fun a ob e => ?_, hr.keep, hr.dom, fun a xs e => addF_sub hr.sub _ _ (hr.tups a xs e), hr.tabs, fun a ps e => by
      unfold addF at e
      split at e
      · rename_i m
        obtain ⟨xs, e'⟩ := h.dom a m
        rw [e] at e'; cases e'
      · exact hr.ntb a ps e⟩, B, ?_, nd'.2.1, fun a m => ⟨?_, (q a (List.mem_append_right _ m)).2⟩⟩
    · unfold addF at e
      split at e
      · rename_i m
        obtain ⟨q1, q2⟩ := q a (List.mem_append_left _ m)
        exact .inr (q2.elim (fun z => .inr (.inl z)) .inl)
      · exact hr.new a ob e
    · exact RepL.cons (A := []) (.z (h.frozen hr.sub hr.tups)) (r.frame (addF_sub hr.sub) (fun _ _ => rfl) fun _ _ e => e)
    · unfold addF
      rw [if_neg fun m' => nd'.2.2 a m' a m rfl]
      exact (q a (List.mem_append_right _ m)).1
/-- something new is laid -/
theorem Hs.alloc {p : Addr} {ob : HO} (s : Hs K FA w F H ps) (hp : H p = none) (hn : ∀ xs, ob ≠ .tup xs) : Hs K FA w F (upd H p ob) ps := by
  obtain ⟨hr, A, r, nd, q⟩ := s
  have sb : Sub H (upd H p ob) := fun a x e => by rw [upd_ne (ne_of_none e hp)]; exact e
  refine ⟨⟨hr.sub.trans sb, hr.sub0, hr.new, fun a x e m => sb _ _ (hr.keep a x e m), fun a e => hr.dom a ?_, fun a xs e => ?_, Tabs.stay hr.tabs fun b o e _ => sb _ _ e, hr.ntb⟩, A, r.frame (Sub.refl _) (fun a m => ?_) sb.tups, nd, q⟩
  · by_cases z : a = p
    · rw [z]; exact hp
    · rw [upd_ne z] at e; exact e
  · by_cases z : a = p
    · rw [z, upd_same] at e; cases e; exact absurd rfl (hn xs)
    · rw [upd_ne z] at e; exact hr.tups a xs e
  · obtain ⟨xs, e⟩ := r.dom a m
    exact upd_ne (ne_of_none e hp)
theorem Hs.allocT {p : Addr} {xs : List V} (s : Hs K FA w F H ps) (hp : H p = none) : Hs K FA w (upd F p (.tup xs)) (upd H p (.tup xs)) ps := by
  obtain ⟨hr, A, r, nd, q⟩ := s
  have sb : Sub H (upd H p (.tup xs)) := fun a x e => by rw [upd_ne (ne_of_none e hp)]; exact e
  have fp : F p = none := by
    cases e : F p with
    | none => rfl
    | some o => rw [hr.sub _ _ e] at hp; cases hp
  have sf : Sub F (upd F p (.tup xs)) := fun a x e => by rw [upd_ne (ne_of_none e fp)]; exact e
  refine ⟨⟨fun a o e => ?_, hr.sub0.trans sf, fun a o e => ?_, fun a x e m => sb _ _ (hr.keep a x e m), fun a e => hr.dom a ?_, fun a ys e => ?_, Tabs.stay hr.tabs fun b o e _ => sb _ _ e, fun a ps e => by
      by_cases z : a = p
      · rw [z, upd_same] at e; cases e
      · rw [upd_ne z] at e; exact hr.ntb a ps e⟩, A, r.frame sf (fun a m => ?_) sb.tups, nd, fun a m => ⟨?_, (q a m).2⟩⟩
  · by_cases z : a = p
    · rw [z, upd_same] at e ⊢; exact e
    · rw [upd_ne z] at e ⊢; exact hr.sub _ _ e
  · by_cases z : a = p
    · exact .inr (.inl (hr.dom a (by rw [z]; exact hp)))
    · rw [upd_ne z] at e; exact hr.new _ _ e
  · by_cases z : a = p
    · rw [z]; exact hp
    · rw [upd_ne z] at e; exact e
  · by_cases z : a = p
    · rw [z, upd_same] at e ⊢; exact e
    · rw [upd_ne z] at e ⊢; exact hr.tups a ys e
  · obtain ⟨ys, e⟩ := r.dom a m
    exact upd_ne (ne_of_none e hp)
  · obtain ⟨ys, e⟩ := r.dom a m
    rw [upd_ne (ne_of_none e hp)]
    exact (q a m).1
/-- several at the front, as one list -/
theorem Hs.front {os : List O} {vs : List V} (hl : vs.length = os.length) (s : Hs K FA w F H ((vs.map Option.some).zip os ++ ps)) :
    ∃ A, RepOs K FA F H vs os A := by
  obtain ⟨hr, A, r, nd, q⟩ := s
  obtain ⟨A1, B1, rfl, r1, r2⟩ := RepL.to_os hl r
  exact ⟨A1, r1⟩
theorem Hs.drop {os : List O} {vs : List V} (hl : vs.length = os.length) (s : Hs K FA w F H ((vs.map Option.some).zip os ++ ps)) : Hs K FA w F H ps := by
  obtain ⟨hr, A, r, nd, q⟩ := s
  obtain ⟨A1, B1, rfl, r1, r2⟩ := RepL.to_os hl r
  exact ⟨hr, B1, r2, (List.nodup_append.mp nd).2.1, fun a m => q a (List.mem_append_right _ m)⟩
/-- [..] -/
theorem Hs.mkList {os : List O} {vs : List V} {p : Addr} (hl : vs.length = os.length) (s : Hs K FA w F H ((vs.map Option.some).zip os ++ ps)) (hp : H p = none) :
    Hs K FA w F (upd H p (.lst vs)) ((some (.ref p), .l os) :: ps) := by
  have s1 := s.alloc (ob := .lst vs) hp (fun xs z => by cases z)
  obtain ⟨hr, A, r, nd, q⟩ := s1
  obtain ⟨A1, B1, rfl, r1, r2⟩ := RepL.to_os hl r
  have np : ∀ a ∈ A1 ++ B1, a ≠ p := fun a m z => by
    obtain ⟨hr0, A0, r0, _, _⟩ := s
    have q2 := (q a m)
    obtain ⟨xs, e⟩ := r.dom a m
    -- the owned ones stood there before
    obtain ⟨C, D', eC, rC, rD⟩ := RepL.to_os hl r0
    have frC := r0.frame (F' := F) (H' := upd H p (.lst vs)) (Sub.refl _) (fun b mb => by
      obtain ⟨ys, eb⟩ := r0.dom b mb
      exact upd_ne (ne_of_none eb hp)) (fun b ys eb => by rw [upd_ne (ne_of_none eb hp)]; exact eb)
    exact absurd z (by
      intro z
      have := RepL.uniq frC r
      subst this
      obtain ⟨ys, eb⟩ := r0.dom a m
      rw [z, hp] at eb
      cases eb)
  refine ⟨hr, p :: A1 ++ B1, RepL.cons (A := p :: A1) (.l upd_same r1) r2, ?_, fun a m => ?_⟩
  · rw [List.cons_append]
    exact List.nodup_cons.mpr ⟨fun m => np p m rfl, nd⟩
  · rw [List.cons_append] at m
    rcases List.mem_cons.mp m with e | m
    · subst e
      have h0 : F a = none := by
        cases e : F a with
        | none => rfl
        | some o => rw [s.1.sub _ _ e] at hp; cases hp
      exact ⟨h0, .inr (s.1.dom a hp)⟩
    · exact q a m
end
end RF
/-! RFc: the slots, what changes. -/
namespace RF
open L2 PySem PySem.Spec PyProof.Rows
/-! ### slots -/
theorem lv_nil : lv [] [] = [] := rfl
theorem lv_none (w : Option V) (σ : L2.St) (env : Env) : lv (w :: σ) (none :: env) = lv σ env := rfl
theorem lv_some (w : Option V) (o : O) (σ : L2.St) (env : Env) : lv (w :: σ) (some o :: env) = (w, o) :: lv σ env := rfl
theorem getE_some {env : Env} {i : Nat} {o : O} (h : getE env i = some o) : env[i]? = some (some o) := by
  unfold getE at h
  cases e : env[i]? with
  | none => rw [e] at h; cases h
  | some x => rw [e] at h; simp at h; rw [h]
theorem lv_take : ∀ {σ : L2.St} {env : Env} {i : Nat} {o : O}, env.length = σ.length → env[i]? = some (some o) → ∃ w, σ[i]? = some w ∧ (lv σ env).Perm ((w, o) :: lv σ (env.set i none))
  | [], [], _, _, _, e => by simp at e
  | [], _ :: _, _, _, hl, _ => by simp at hl
  | _ :: _, [], _, _, hl, _ => by simp at hl
  | w :: σ, x :: env, 0, o, hl, e => by
    simp at e; subst e
    exact ⟨w, rfl, .refl _⟩
  | w :: σ, x :: env, i + 1, o, hl, e => by
    obtain ⟨w', e1, p⟩ := lv_take (σ := σ) (env := env) (i := i) (by simpa using hl) (by simpa using e)
    refine ⟨w', by simpa using e1, ?_⟩
    cases x with
    | none => exact p
    | some x =>
      rw [List.set_cons_succ, lv_some, lv_some]
      exact (p.cons _).trans (.swap _ _ _)
theorem lv_put (o : O) (w : Option V) : ∀ {σ : L2.St} {env : Env} {i : Nat}, env.length = σ.length → i < σ.length → (lv (σ.set i w) (env.set i (some o))).Perm ((w, o) :: lv σ (env.set i none))
  | [], [], _, _, h => by simp at h
  | [], _ :: _, _, hl, _ => by simp at hl
  | _ :: _, [], _, hl, _ => by simp at hl
  | w' :: σ, x :: env, 0, hl, h => .refl _
  | w' :: σ, x :: env, i + 1, hl, h => by
    have p := lv_put o w (σ := σ) (env := env) (i := i) (by simpa using hl) (by simpa using h)
    rw [List.set_cons_succ, List.set_cons_succ, List.set_cons_succ]
    cases x with
    | none => exact p
    | some x =>
      rw [lv_some, lv_some]
      exact (p.cons _).trans (.swap _ _ _)
theorem set_self : ∀ {σ : L2.St} {i : Nat} {w : Option V}, σ[i]? = some w → σ.set i w = σ
  | [], _, _, e => by simp at e
  | x :: σ, 0, w, e => by simp at e; subst e; rfl
  | x :: σ, i + 1, w, e => by rw [List.set_cons_succ, set_self (by simpa using e)]
theorem lv_none_of : ∀ {σ : L2.St} {env : Env} {i : Nat}, env.length = σ.length → getE env i = none → lv σ (env.set i none) = lv σ env
  | [], [], _, _, _ => rfl
  | [], _ :: _, _, hl, _ => by simp at hl
  | _ :: _, [], _, hl, _ => by simp at hl
  | w :: σ, x :: env, 0, hl, e => by
    cases x with
    | none => rfl
    | some x => simp [getE] at e
  | w :: σ, x :: env, i + 1, hl, e => by
    have h := lv_none_of (σ := σ) (env := env) (i := i) (by simpa using hl) (by simpa [getE] using e)
    rw [List.set_cons_succ]
    cases x with
    | none => rw [lv_none, lv_none, h]
    | some x => rw [lv_some, lv_some, h]
section
variable {K : PySem.W.Frag} {FA : Fns} {w : W0} {F F' H H' : Hp} {ps qs ts : List (Option V × O)} {v : V} {o : O} {d : D} {σ : L2.St} {env : Env} {i : Nat}
theorem Hs.take (hl : env.length = σ.length) (e : getE env i = some o) (s : Hs K FA w F H (lv σ env ++ ts)) : ∃ v, σ[i]? = some (some v) ∧ Hs K FA w F H ((some v, o) :: (lv σ (env.set i none) ++ ts)) := by
  obtain ⟨u, e1, p⟩ := lv_take hl (getE_some e)
  have s1 := s.perm (p.append_right ts)
  obtain ⟨v, rfl⟩ := s1.isSome
  exact ⟨v, e1, s1⟩
theorem Hs.put (hl : env.length = σ.length) (hi : i < σ.length) (s : Hs K FA w F H ((some v, o) :: (lv σ (env.set i none) ++ ts))) : Hs K FA w F H (lv (σ.set i (some v)) (env.set i (some o)) ++ ts) :=
  s.perm ((lv_put o (some v) hl hi).symm.append_right ts)
theorem Hs.back (hl : env.length = σ.length) (hi : σ[i]? = some (some v)) (s : Hs K FA w F H ((some v, o) :: (lv σ (env.set i none) ++ ts))) : Hs K FA w F H (lv σ (env.set i (some o)) ++ ts) := by
  have h := s.put hl (i := i) (by have := (List.getElem?_eq_some_iff.mp hi).1; exact this)
  rw [set_self hi] at h
  exact h
theorem Hs.forget (hl : env.length = σ.length) (s : Hs K FA w F H (lv σ env ++ ts)) : Hs K FA w F H (lv σ (env.set i none) ++ ts) := by
  cases e : getE env i with
  | none => rw [lv_none_of hl e]; exact s
  | some o =>
    obtain ⟨v, _, s1⟩ := s.take hl e
    exact s1.tail
theorem Hs.store (hl : env.length = σ.length) (hi : i < σ.length) (s : Hs K FA w F H ((some v, o) :: (lv σ env ++ ts))) : Hs K FA w F H (lv (σ.set i (some v)) (env.set i (some o)) ++ ts) := by
  refine Hs.put hl hi ?_
  have s1 : Hs K FA w F H (lv σ env ++ ((some v, o) :: ts)) := s.perm (List.perm_middle.symm)
  exact (s1.forget hl (i := i)).perm List.perm_middle
/-- the slot's value, seen -/
theorem Hs.slotView (hl : env.length = σ.length) (e : getE env i = some o) (s : Hs K FA w F H (lv σ env ++ ts)) : ∃ v, σ[i]? = some (some v) ∧ Rep K FA H v o.toD := by
  obtain ⟨v, e1, s1⟩ := s.take hl e
  exact ⟨v, e1, s1.view⟩
theorem Hs.slotRep (hl : env.length = σ.length) (e : getE env i = some (.z d)) (s : Hs K FA w F H (lv σ env ++ ts)) : ∃ v, σ[i]? = some (some v) ∧ Rep K FA F v d := by
  obtain ⟨v, e1, s1⟩ := s.take hl e
  exact ⟨v, e1, s1.rep⟩
/-- a value that is looked at: it stands for good, or its own list is read and its items stand for good -/
inductive RepV (K : PySem.W.Frag) (FA : Fns) (F H : Hp) : V → D → Prop
  | rep {v : V} {d : D} : Rep K FA F v d → RepV K FA F H v d
  | l {a : Addr} {vs : List V} {ds : List D} : H a = some (.lst vs) → Reps K FA F vs ds → RepV K FA F H (.ref a) (.lst ds)
theorem RepV.mono (h : RepV K FA F H v d) (s : Sub F F') (t : Sub H H') : RepV K FA F' H' v d := by
  cases h with
  | rep h => exact .rep (h.mono s)
  | l h r => exact .l (t _ _ h) (r.mono s)
theorem RepV.view (h : RepV K FA F H v d) (s : Sub F H) : Rep K FA H v d := by
  cases h with
  | rep h => exact h.mono s
  | l h r => exact .lst h (r.mono s)
theorem RepV.lst {ds : List D} (h : RepV K FA F H v (.lst ds)) (s : Sub F H) : ∃ a vs, v = .ref a ∧ H a = some (.lst vs) ∧ Reps K FA F vs ds := by
  cases h with
  | rep h =>
    cases h with
    | lst h r => exact ⟨_, _, rfl, s _ _ h, r⟩
  | l h r => exact ⟨_, _, rfl, h, r⟩
theorem RepV.tup {ds : List D} (h : RepV K FA F H v (.tup ds)) (s : Sub F H) : ∃ a vs, v = .ref a ∧ H a = some (.tup vs) ∧ Reps K FA F vs ds := by
  cases h with
  | rep h =>
    cases h with
    | tup h r => exact ⟨_, _, rfl, s _ _ h, r⟩
theorem RepV.int {n : Int} (h : RepV K FA F H v (.int n)) : v = .int n := by
  cases h with
  | rep h => cases h; rfl
theorem RepV.scr {ns : List Int} (h : RepV K FA F H v (.scr ns)) (s : Sub F H) : ∃ a, v = .ref a ∧ SqL K H a (ns.map V.int) := by
  cases h with
  | rep h =>
    cases h with
    | scr h => exact ⟨_, rfl, SqL.sub s h⟩
theorem RepOs.allZ' {os : List O} {vs : List V} {A : List Addr} (h : RepOs K FA F H vs os A) (e : os.all O.isZ = true) : A = [] ∧ Reps K FA F vs (O.toDs os) := h.allZ e
theorem RepO.viewV {A : List Addr} (t : Tups H F) (h : RepO K FA F H v o A) (e : o.flat = true) : RepV K FA F H v o.toD := by
  cases h with
  | z h => simp only [O.toD]; exact .rep h
  | l h r =>
    simp only [O.toD]
    obtain ⟨_, q⟩ := r.allZ (by simpa [O.flat] using e)
    exact .l h q
  | t h r =>
    simp only [O.toD]
    obtain ⟨_, q⟩ := r.allZ (by simpa [O.flat] using e)
    exact .rep (.tup (t _ _ h) q)
/-- an owned list is written -/
theorem Hs.write {a : Addr} {vs vs' : List V} {os' : List O} {A' B : List Addr} (hr : HR w F H) (h : H a = some (.lst vs)) (r : RepOs K FA F H vs' os' A') (rB : RepL K FA F H ps B)
    (nd : (a :: (A' ++ B)).Nodup) (q : ∀ x ∈ a :: (A' ++ B), F x = none ∧ (x ∈ w.M ∨ w.H0 x = none)) : Hs K FA w F (upd H a (.lst vs')) ((some (.ref a), .l os') :: ps) := by
  have na : ∀ x ∈ A' ++ B, x ≠ a := fun x m z => by
    have := (List.nodup_cons.mp nd).1
    rw [z] at m
    exact this m
  have fa : F a = none := (q a List.mem_cons_self).1
  have tp : Tups H (upd H a (.lst vs')) := fun x xs e => by
    rw [upd_ne (ne_of e h fun z => by cases z)]; exact e
  refine ⟨⟨fun x o e => ?_, hr.sub0, hr.new, fun x o e m => ?_, fun x e => ?_, fun x xs e => ?_, Tabs.stay hr.tabs fun b o e n => by rw [upd_ne (fun z => by rw [z, h] at e; cases e; exact n _ rfl)]; exact e, hr.ntb⟩, a :: A' ++ B, RepL.cons (A := a :: A') (.l upd_same (r.frame (Sub.refl _) (fun x m => upd_ne (na x (List.mem_append_left _ m))) tp)) (rB.frame (Sub.refl _) (fun x m => upd_ne (na x (List.mem_append_right _ m))) tp), by simpa using nd, fun x m => q x (by simpa using m)⟩
  · have : x ≠ a := fun z => by rw [z, fa] at e; cases e
    rw [upd_ne this]; exact hr.sub _ _ e
  · have : x ≠ a := fun z => by
      subst z
      rcases (q x List.mem_cons_self).2 with z | z
      · exact m z
      · rw [z] at e; cases e
    rw [upd_ne this]; exact hr.keep _ _ e m
  · by_cases z : x = a
    · rw [z, upd_same] at e; cases e
    · rw [upd_ne z] at e; exact hr.dom _ e
  · by_cases z : x = a
    · rw [z, upd_same] at e; cases e
    · rw [upd_ne z] at e; exact hr.tups _ _ e
theorem Hs.own {os : List O} (s : Hs K FA w F H ((some v, .l os) :: ps)) : ∃ a vs, v = .ref a ∧ H a = some (.lst vs) ∧ vs.length = os.length := by
  obtain ⟨A, h⟩ := s.head
  cases h with
  | l h r => exact ⟨_, _, rfl, h, r.length⟩
theorem Hs.append {os : List O} {a : Addr} {vs : List V} {y : V} (h : H a = some (.lst vs)) (s : Hs K FA w F H ((some (.ref a), .l os) :: (some y, o) :: ps)) :
    Hs K FA w F (upd H a (.lst (vs ++ [y]))) ((some (.ref a), .l (os ++ [o])) :: ps) := by
  obtain ⟨hr, C, r, nd, q⟩ := s
  cases r with
  | cons h1 r =>
    cases h1 with
    | l h2 r2 =>
      cases r with
      | cons h3 r3 =>
        rename_i vs2 A1 A3 B3
        rw [h] at h2; cases h2
        have r4 := r2.append (RepOs.cons h3 .nil)
        have e : a :: A1 ++ (A3 ++ B3) = a :: (A1 ++ (A3 ++ []) ++ B3) := by simp
        rw [e] at nd q
        exact Hs.write hr h r4 r3 nd q
theorem Hs.setAt {os : List O} {a : Addr} {vs : List V} {y : V} (h : H a = some (.lst vs)) (hi : i < os.length) (s : Hs K FA w F H ((some (.ref a), .l os) :: (some y, o) :: ps)) :
    Hs K FA w F (upd H a (.lst (vs.set i y))) ((some (.ref a), .l (os.set i o)) :: ps) := by
  obtain ⟨hr, C, r, nd, q⟩ := s
  cases r with
  | cons h1 r =>
    cases h1 with
    | l h2 r2 =>
      cases r with
      | cons h3 r3 =>
        rename_i vs2 A1 A3 B3
        rw [h] at h2; cases h2
        obtain ⟨Ar, r4, Ad, p⟩ := RepOs.set h3 r2 hi
        have p2 : (a :: A1 ++ (A3 ++ B3)).Perm (Ad ++ (a :: (Ar ++ B3))) := by
          have q1 : (a :: A1 ++ (A3 ++ B3)).Perm (a :: ((Ad ++ Ar) ++ B3)) := by
            rw [List.cons_append]
            refine List.Perm.cons a ?_
            rw [← List.append_assoc]
            exact ((List.perm_append_comm).trans p.symm).append_right B3
          refine q1.trans ?_
          rw [List.append_assoc]
          exact List.perm_middle.symm
        have nd2 := (List.nodup_append.mp (p2.nodup_iff.mp nd)).2.1
        exact Hs.write hr h r4 r3 nd2 fun x m => q x (p2.mem_iff.mpr (List.mem_append_right _ m))
/-- an item leaves an owned list -/
theorem Hs.erase {os : List O} {a : Addr} {vs : List V} (h : H a = some (.lst vs)) (hi : os[i]? = some o) (s : Hs K FA w F H ((some (.ref a), .l os) :: ps)) :
    ∃ y, vs[i]? = some y ∧ Hs K FA w F (upd H a (.lst (vs.eraseIdx i))) ((some y, o) :: (some (.ref a), .l (os.eraseIdx i)) :: ps) := by
  obtain ⟨hr, C, r, nd, q⟩ := s
  cases r with
  | @cons _ _ _ _ B1 h1 r =>
    cases h1 with
    | @l _ vs2 _ A1 h2 r2 =>
      rw [h] at h2; cases h2
      obtain ⟨y, Ao, Ar, e1, r3, r4, p⟩ := r2.pick hi
      refine ⟨y, e1, ?_⟩
      have p2 : (a :: A1 ++ B1).Perm (a :: (Ar ++ (Ao ++ B1))) := by
        rw [List.cons_append]
        refine List.Perm.cons a ?_
        refine (p.append_right B1).trans ?_
        rw [← List.append_assoc]
        exact List.perm_append_comm.append_right B1
      have s2 := Hs.write hr h r4 (RepL.cons r3 r) (p2.nodup_iff.mp nd) fun x m => q x (p2.mem_iff.mpr m)
      exact s2.perm (.swap _ _ _)
/-- (..) of values that stand for good -/
theorem Hs.mkTup {os : List O} {vs : List V} {p : Addr} (hl : vs.length = os.length) (s : Hs K FA w F H ((vs.map Option.some).zip os ++ ps)) (hp : H p = none) :
    Hs K FA w (upd F p (.tup vs)) (upd H p (.tup vs)) ((some (.ref p), if os.all O.isZ then .z (.tup (O.toDs os)) else .t os) :: ps) := by
  have s1 := s.allocT (xs := vs) hp
  by_cases z : os.all O.isZ = true
  · rw [if_pos z]
    obtain ⟨hr, A, r, nd, q⟩ := s1
    obtain ⟨A1, B1, rfl, r1, r2⟩ := RepL.to_os hl r
    obtain ⟨rfl, r3⟩ := r1.allZ z
    exact ⟨hr, B1, RepL.cons (A := []) (.z (.tup upd_same r3)) r2, nd, q⟩
  · rw [if_neg z]
    obtain ⟨hr, A, r, nd, q⟩ := s1
    obtain ⟨A1, B1, rfl, r1, r2⟩ := RepL.to_os hl r
    exact ⟨hr, A1 ++ B1, RepL.cons (.t upd_same r1) r2, nd, q⟩
/-- a new list of values that stand for good -/
theorem Hs.newList {ds : List D} {vs : List V} {p : Addr} (s : Hs K FA w F H ps) (r : Reps K FA F vs ds) (hp : H p = none) : Hs K FA w F (upd H p (.lst vs)) ((some (.ref p), .l (ds.map .z)) :: ps) := by
  have hl : vs.length = (ds.map O.z).length := by rw [List.length_map]; exact r.length
  refine Hs.mkList hl ?_ hp
  obtain ⟨hr, A, r1, nd, q⟩ := s
  exact ⟨hr, A, RepL.of_os (A := []) (RepOs.of_reps r) r1, nd, q⟩
/-- the owned addresses of a new value are new -/
def Fresh (K : PySem.W.Frag) (FA : Fns) (F' H H' : Hp) (v : V) (o : O) : Prop := ∃ A, RepO K FA F' H' v o A ∧ ∀ a ∈ A, H a = none
/-- the environment again as it was: nothing was changed, and what came shares no list -/
theorem Hs.restore {env1 : Env} (s : Hs K FA w F H (lv σ env ++ ts)) (s1 : Hs K FA w F' H' ((some v, o) :: (lv σ env1 ++ ts))) (hH : Sub H H') (hF : Sub F F') (fr : Fresh K FA F' H H' v o) (c : o.clean = true) :
    ∃ F2, Sub F F2 ∧ Fresh K FA F2 H H' v o ∧ Hs K FA w F2 H' ((some v, o) :: (lv σ env ++ ts)) := by
  obtain ⟨hr, B, rB, ndB, qB⟩ := s
  obtain ⟨hr1, C, rC, ndC, qC⟩ := s1
  obtain ⟨A, rA, nA⟩ := fr
  cases rC with
  | cons rA' rC =>
    rename_i A' B'
    obtain rfl := rA.uniq rA'
    let F2 : Hp := fun a => match F a with
      | some ob => some ob
      | none => match H' a with
        | some (.tup xs) => some (.tup xs)
        | _ => none
    have f2a : ∀ a ob, F a = some ob → F2 a = some ob := fun a ob e => by show (match F a with | some ob => some ob | none => _) = _; rw [e]
    have f2t : ∀ a xs, F a = none → H' a = some (.tup xs) → F2 a = some (.tup xs) := fun a xs e e' => by
      show (match F a with | some ob => some ob | none => match H' a with | some (.tup xs) => some (.tup xs) | _ => none) = _
      rw [e, e']
    have f2i : ∀ a ob, F2 a = some ob → F a = some ob ∨ (F a = none ∧ ∃ xs, ob = .tup xs ∧ H' a = some (.tup xs)) := fun a ob e => by
      have e : (match F a with | some ob => some ob | none => match H' a with | some (.tup xs) => some (.tup xs) | _ => none) = some ob := e
      cases q : F a with
      | some x => rw [q] at e; exact .inl e
      | none =>
        rw [q] at e
        cases q' : H' a with
        | none => rw [q'] at e; cases e
        | some x =>
          rw [q'] at e
          cases x <;> first | cases e; exact .inr ⟨rfl, _, rfl, rfl⟩ | cases e
    have tups2 : Tups H' F2 := fun a xs e => by
      cases q : F a with
      | none => exact f2t a xs q e
      | some ob =>
        have := hF _ _ q
        have h2 := hr1.sub _ _ this
        rw [e] at h2; cases h2
        exact f2a a _ q
    have hr2 : HR w F2 H' := ⟨fun a ob e => by
        rcases f2i a ob e with z | ⟨_, xs, z1, z2⟩
        · exact hr1.sub _ _ (hF _ _ z)
        · rw [z1]; exact z2,
      fun a ob e => f2a a ob (hr.sub0 a ob e), fun a ob e => by
        rcases f2i a ob e with z | ⟨n, xs, z1, z2⟩
        · exact hr.new a ob z
        · refine .inr (.inl (hr.dom a ?_))
          cases q : H a with
          | none => rfl
          | some x =>
            have h2 := hH _ _ q
            rw [z2] at h2
            cases h2
            have h3 := hr.tups _ _ q
            rw [n] at h3
            exact (nomatch h3), hr1.keep, hr1.dom, tups2, hr1.tabs, fun a ps e => by
        rcases f2i a _ e with z | ⟨_, xs, z1, _⟩
        · exact hr.ntb a ps z
        · cases z1⟩
    have sub2 : Sub F F2 := f2a
    have t12 : Tups F' F2 := fun a xs e => tups2 a xs (hr1.sub _ _ e)
    have rA2 := rA.clean t12 c
    have rB2 : RepL K FA F2 H' (lv σ env ++ ts) B := rB.frame sub2 (fun a m => by
      obtain ⟨xs, e⟩ := rB.dom a m
      rw [e]; exact hH _ _ e) hH.tups
    refine ⟨F2, sub2, ⟨A, rA2, nA⟩, hr2, A ++ B, RepL.cons rA2 rB2, List.nodup_append.mpr ⟨(List.nodup_append.mp ndC).1, ndB, fun a ma b mb e => ?_⟩, fun a m => ?_⟩
    · obtain ⟨xs, q⟩ := rB.dom b mb
      rw [e] at ma
      rw [nA b ma] at q; cases q
    · have nt : ∃ xs, H' a = some (.lst xs) := by
        rcases List.mem_append.mp m with m | m
        · exact rA2.dom a m
        · obtain ⟨xs, e⟩ := rB.dom a m
          exact ⟨xs, hH _ _ e⟩
      have fn : F a = none := by
        rcases List.mem_append.mp m with m | m
        · cases q : F a with
          | none => rfl
          | some x =>
            have := hr.sub _ _ q
            rw [nA a m] at this; cases this
        · exact (qB a m).1
      refine ⟨?_, ?_⟩
      · cases q : F2 a with
        | none => rfl
        | some x =>
          obtain ⟨xs, e⟩ := nt
          rcases f2i a x q with z | ⟨_, ys, rfl, z⟩
          · rw [fn] at z; cases z
          · rw [e] at z; cases z
      · rcases List.mem_append.mp m with m | m
        · exact .inr (hr.dom a (nA a m))
        · exact (qB a m).2
end
end RF
/-! RFd: what the text must look like; what a def promises; what a reading says. -/
namespace RF
open L2 PySem PySem.Spec PyProof.Rows
/-! ### the look at the text -/
structure Names where
  kw : List (Nat × Nat × List Str × List Nat)
  fn : Nat → Option Str
  kn : Nat → Option (Str × Int)
  pars : Nat → List Str
  mks : Bool
  lamB : Nat → Arguments → Scope → Expr → Bool
  cl : Nat → Option Str
  fit : Option Str
def kd (sc : Scope) (x : Str) : Option NameKind := sc.names.lookup x
def visB (N : List Str) (sc : Scope) (i : Nat) (x : Str) : Bool :=
  decide (N[i]? = some x) && (decide (kd sc x = some .local) || decide (kd sc x = some .cell) || decide (kd sc x = some .free)) && !(x == "__debug__") && !(x == "__classdict__")
def locB (N : List Str) (sc : Scope) (i : Nat) (x : Str) : Bool := decide (N[i]? = some x) && (decide (kd sc x = some .local) || decide (kd sc x = some .cell))
def glB (sc : Scope) (x : Str) : Bool := decide (kd sc x = some .globalImplicit) && !(x == "__debug__")
def bopIs : Bop → Operator → Bool
  | .add, .Add => true | .sub, .Sub => true | .mul, .Mult => true | .fdiv, .FloorDiv => true | .mod, .Mod => true | .pow, .Pow => true
  | _, _ => false
def copIs : Cop → CmpOp → Bool
  | .eq, .Eq => true | .ne, .NotEq => true | .lt, .Lt => true | .le, .LtE => true | .gt, .Gt => true | .ge, .GtE => true
  | .mem, .In => true | .nmem, .NotIn => true | .is, .Is => true | .isn, .IsNot => true
  | _, _ => false
def bltIs : Blt → Nat → Str → Bool
  | .len, 1, x => x == "len" | .abs, 1, x => x == "abs" | .sum, 1, x => x == "sum" | .max1, 1, x => x == "max" | .min1, 1, x => x == "min"
  | .max2, 2, x => x == "max" | .min2, 2, x => x == "min" | .int, 1, x => x == "int" | .list, 1, x => x == "list" | .tuple, 1, x => x == "tuple"
  | .all, 1, x => x == "all" | .repr, 1, x => x == "repr"
  | _, _, _ => false
def tyIs : Ty → Expr → Scope → Bool
  | .int, .Name x _, sc => x == "int" && glB sc x
  | .bool, .Name x _, sc => x == "bool" && glB sc x
  | .str, .Name x _, sc => x == "str" && glB sc x
  | .list, .Name x _, sc => x == "list" && glB sc x
  | .tuple, .Name x _, sc => x == "tuple" && glB sc x
  | .lt, .Tuple [.Name x _, .Name y _] _ _, sc => x == "list" && glB sc x && y == "tuple" && glB sc y
  | _, _, _ => false
def noMark (op : CmpOp) (b : Expr) : Bool := !behindInMarks op b
/-- the names of a target -/
def tgIs (N : List Str) (sc : Scope) : Tg → Expr → Bool
  | .nm i, .Name x _ => locB N sc i x
  | .tp is, .Tuple es _ _ => go is es
  | _, _ => false
where go : List Nat → List Expr → Bool
  | [], [] => true
  | i :: is, .Name x _ :: es => locB N sc i x && go is es
  | _, _ => false
def tgSlots : Tg → List Nat
  | .nm i => [i]
  | .tp is => is
def ownOf (N : List Str) (own : List Nat) : List (Str × Nat) := own.map fun i => (N.getD i "", i)
def kwNames : List Keyword → List Str
  | [] => []
  | ⟨.some n, _, _⟩ :: r => n :: kwNames r
  | ⟨.none, _, _⟩ :: r => kwNames r
def xsLen : Xs → Nat
  | .nil => 0
  | .cons _ es => xsLen es + 1
mutual
def isE (Nm : Names) (N : List Str) : X → Scope → Expr → Bool
  | .v i, sc, e => (match e with | .Name x _ => visB N sc i x | _ => false)
  | .non, _, e => (match e with | .Constant .none _ _ => true | _ => false)
  | .tt b, _, e => (match e with | .Constant (.bool c) _ _ => b == c | _ => false)
  | .n i, _, e => (match e with | .Constant (.int j) _ _ => decide (i = j) | _ => false)
  | .s x, _, e => (match e with | .Constant (.str y) _ _ => decide (x = y) | _ => false)
  | .g f, sc, e => (match e with | .Name x _ => decide (Nm.fn f = some x) && glB sc x | _ => false)
  | .gk j i, sc, e => (match e with | .Name x _ => decide (Nm.kn j = some (x, i)) && glB sc x | _ => false)
  | .tup es, sc, e => (match e with | .Tuple us _ _ => isEs Nm N es sc us && decide (us.length ≤ 1000) | _ => false)
  | .lst es, sc, e => (match e with | .List us _ => isEs Nm N es sc us && decide (us.length ≤ 1000) | _ => false)
  | .bin o a b, sc, e => (match e with | .BinOp x op y _ => bopIs o op && isE Nm N a sc x && isE Nm N b sc y | _ => false)
  | .neg a, sc, e => (match e with | .UnaryOp .USub x _ => isE Nm N a sc x | _ => false)
  | .cmp o a b, sc, e => (match e with | .Compare x [op] [y] _ => copIs o op && noMark op y && isE Nm N a sc x && isE Nm N b sc y | _ => false)
  | .cmp2 o p a b c, sc, e => (match e with | .Compare x [op, op'] [y, z] _ => copIs o op && copIs p op' && noMark op' z && isE Nm N a sc x && isE Nm N b sc y && isE Nm N c sc z | _ => false)
  | .and es, sc, e => (match e with | .BoolOp .And us _ => isEs Nm N es sc us | _ => false)
  | .or es, sc, e => (match e with | .BoolOp .Or us _ => isEs Nm N es sc us | _ => false)
  | .not a, sc, e => (match e with | .UnaryOp .Not x _ => isE Nm N a sc x | _ => false)
  | .ite c a b, sc, e => (match e with | .IfExp x y z _ => isE Nm N c sc x && isE Nm N a sc y && isE Nm N b sc z | _ => false)
  | .ix a i, sc, e => (match e with | .Subscript x y _ => isE Nm N a sc x && isE Nm N i sc y | _ => false)
  | .sl a lo hi, sc, e => (match e with | .Subscript x (.Slice l h .none _) _ => isE Nm N a sc x && isEo Nm N lo sc l && isEo Nm N hi sc h | _ => false)
  | .rev a, sc, e => (match e with | .Subscript x (.Slice .none .none (.some (.UnaryOp .USub (.Constant (.int 1) _ _) _)) _) _ => isE Nm N a sc x | _ => false)
  | .call p f es, sc, e => (match e with | .Call (.Name x _) us [] _ => decide (Nm.fn f = some x) && glB sc x && isEs Nm N es sc us && (!p || pureXs es) | _ => false)
  | .callk f es ks perm, sc, e => (match e with | .Call (.Name x _) us kws _ => decide (Nm.fn f = some x) && glB sc x && isEs Nm N es sc us && isKs Nm N ks sc kws && pureXs es && pureXs ks && decide (0 < kws.length) && Nm.kw.contains (f, us.length, kwNames kws, perm) | _ => false)
  | .callv i es, sc, e => (match e with | .Call (.Name x _) us [] _ => visB N sc i x && isEs Nm N es sc us && pureXs es | _ => false)
  | .blt b es, sc, e => (match e with | .Call (.Name x _) us [] _ => bltIs b us.length x && glB sc x && isEs Nm N es sc us | _ => false)
  | .lrange it, sc, e => (match e with | .Call (.Name x _) [u] [] _ => x == "list" && glB sc x && (match it with | .rng1 _ => true | .rng2 _ _ => true | _ => false) && isIt Nm N it sc (.Name "x" ⟨0, 0, 0, 0⟩) u | _ => false)
  | .isi t a, sc, e => (match e with | .Call (.Name x _) [u, c] [] _ => x == "isinstance" && glB sc x && isE Nm N a sc u && tyIs t c sc | _ => false)
  | .bits a, sc, e => (match e with | .Call (.Attribute (.Name x px) m p) [] [] q => m == "bit_length" && (p.endLine == q.line) && isE Nm N a sc (.Name x px) | _ => false)
  | .comp elt t it c own, sc, e => (match e with | .ListComp u [⟨tg, iu, ifs, 0⟩] sc' _ => blkC N sc sc' (ownOf N own) && own.all (fun i => decide (i < N.length)) && decide own.Nodup && (tgSlots t).all (fun i => own.contains i) && isIt Nm N it sc tg iu && tgIs N sc' t tg && isIfs Nm N c sc' ifs && isE Nm N elt sc' u | _ => false)
  | .pop i, sc, e => (match e with | .Call (.Attribute (.Name x _) m p) [] [] q => m == "pop" && (p.endLine == q.line) && visB N sc i x | _ => false)
  | .popAt i k, sc, e => (match e with | .Call (.Attribute (.Name x _) m p) [u] [] q => m == "pop" && (p.endLine == q.line) && visB N sc i x && isE Nm N k sc u | _ => false)
  | .attr i, sc, e => (match e with | .Attribute (.Name x _) f _ => f == "value" && visB N sc i x | _ => false)
  | .isc c i, sc, e => (match e with | .Call (.Name x _) [.Name y _, .Name z _] [] _ => x == "isinstance" && glB sc x && visB N sc i y && decide (Nm.cl c = some z) && glB sc z | _ => false)
  | .idx i b, sc, e => (match e with | .Call (.Attribute (.Name x _) m p) [u] [] q => m == "index" && (p.endLine == q.line) && visB N sc i x && isE Nm N b sc u && pureX b | _ => false)
  | .ix2 i a b, sc, e => (match e with | .Subscript (.Subscript (.Name x _) ka _) kb _ => visB N sc i x && isE Nm N a sc ka && isE Nm N b sc kb && (pureX a && pureX b) | _ => false)
  | .lam k is, _, e => (match e with | .Lambda params body scope _ => Nm.mks && is.isEmpty && Nm.lamB k params scope body | _ => false)
def isEs (Nm : Names) (N : List Str) : Xs → Scope → List Expr → Bool
  | .nil, _, [] => true
  | .cons e es, sc, u :: us => isE Nm N e sc u && isEs Nm N es sc us
  | _, _, _ => false
def isKs (Nm : Names) (N : List Str) : Xs → Scope → List Keyword → Bool
  | .nil, _, [] => true
  | .cons e es, sc, ⟨.some _, u, _⟩ :: us => isE Nm N e sc u && isKs Nm N es sc us
  | _, _, _ => false
def isEo (Nm : Names) (N : List Str) : Xo → Scope → Option Expr → Bool
  | .none, _, .none => true
  | .some e, sc, .some u => isE Nm N e sc u
  | _, _, _ => false
def isIfs (Nm : Names) (N : List Str) : Xo → Scope → List Expr → Bool
  | .none, _, [] => true
  | .some e, sc, [u] => isE Nm N e sc u
  | _, _, _ => false
def isIt (Nm : Names) (N : List Str) : It → Scope → Expr → Expr → Bool
  | .seq a, sc, _, u => isE Nm N a sc u
  | .rng1 a, sc, _, e => (match e with | .Call (.Name x _) [u] [] _ => x == "range" && glB sc x && isE Nm N a sc u | _ => false)
  | .rng2 a b, sc, _, e => (match e with | .Call (.Name x _) [u, v] [] _ => x == "range" && glB sc x && isE Nm N a sc u && isE Nm N b sc v | _ => false)
  | .enum a, sc, tg, e => (match e with | .Call (.Name x _) [u] [] _ => x == "enumerate" && glB sc x && isE Nm N a sc u && (match tg with | .Tuple _ _ _ => true | _ => false) | _ => false)
  | .rng3 _ _ _, _, _, _ => false
end
/-! ### promises -/
def modeOk : List Bool → List O → Bool
  | [], [] => true
  | false :: ms, .z _ :: os => modeOk ms os
  | true :: ms, .l us :: os => us.all O.isZ && modeOk ms os
  | _, _ => false
/-- what the owned parameters hold behind the call -/
def outsOf : List Bool → List V → List O → List (Option V × O)
  | true :: ms, v :: vs, o :: os => (some v, o) :: outsOf ms vs os
  | false :: ms, _ :: vs, os => outsOf ms vs os
  | _, _, _ => []
/-- an exception's fields -/
def ExcAt (K : PySem.W.Frag) (FA : Fns) (F' H' : Hp) (ds : List D) (od : Option Addr) : Prop :=
  ds = [] ∨ ∃ dx v d, ds = [d] ∧ od = some dx ∧ H' dx = some (.xd [("value", v)]) ∧ Rep K FA F' v d
/-- the arguments in the parameters' order -/
def permL {α : Type} (dflt : α) (us ws : List α) (perm : List Nat) : List α := perm.map fun j => (us ++ ws).getD j dflt
def topA : List V → List O → List Addr
  | .ref a :: vs, .l _ :: os => a :: topA vs os
  | _ :: vs, _ :: os => topA vs os
  | _, _ => []
/-- the promise of a def that does g -/
def spG (K : PySem.W.Frag) (FA : Fns) (CA : Nat → Option Addr) (ms : List Bool) (g : List O → CR) : Sp := fun vs H Q E =>
  ∃ (F : Hp) (os : List O), vs.length = ms.length ∧ modeOk ms os = true ∧ Hs K FA ⟨H, topA vs os, F, []⟩ F H ((vs.map some).zip os) ∧
    match g os with
    | .rt o outs => ∀ v H' F', Sub F F' → Hs K FA ⟨H, topA vs os, F, []⟩ F' H' ((some v, o) :: outsOf ms vs outs) → Q v H'
    | .ex c ds => ∀ H' F' od a, CA c = some a → Sub F F' → HR ⟨H, topA vs os, F, []⟩ F' H' → ExcAt K FA F' H' ds od → E (.ref a) od H'
    | .no => False
/-- the promise of a lambda that stands at f -/
def spK (K : PySem.W.Frag) (FA : Fns) (CA : Nat → Option Addr) (ms : List Bool) (g : List O → CR) (f c : Addr) (L : LamD) (pm ctv : Value) : Sp := fun vs H Q E =>
  H f = some (LamO f c L pm ctv) ∧ H c = some (LamX.CodeO c L.qual) ∧ spG K FA CA ms g vs H Q E
/-- as FnOk, where no repr runs around -/
structure FnG (P : Program) (w : World) (K : PySem.W.Frag) (mg : Str → Option Value) (base : Heap) (CX : CXT) (k : Nat) (f : Addr) (fd : FuncData) (ps : List Str) (sp : Sp) : Prop where
  len : ∀ vs H Q E, sp vs H Q E → vs.length = ps.length
  run : ∀ (A : Around) (outer : List PySem.Env) (s : Shared) (H : Hp) (args : Args) (us : List Value) (vs : List V) (Q : VK) (E : XK), Room k A → A.guards = some [] → Env0 P w K mg base A outer s H → BindsTo s fd args (ps.zip us) → Vals vs us → sp vs H Q E →
    codeAny (model P w) A (.call (.ref f) args) (L2.CR CX outer P w H s Q E) s
/-- what is known of an error class -/
structure ClsF (X : Cx) (a : Addr) : Prop where
  ini : ∃ fI cc F, RX.IniF X.prog X.K X.mg X.base a fI cc F
  xf : XfC X.K a
  ex : ExcC X.K a
/-! ### the context -/
structure ScR (X : Cx) (sc : Scope) : Prop where
  loc : ∀ x, kd sc x = some .local → X.env.scope.names.lookup x = some .local
  cell : ∀ x, kd sc x = some .cell → X.env.scope.names.lookup x = some .cell ∧ X.fn x = true
  free : ∀ x, kd sc x = some .free → X.env.scope.names.lookup x = some .cell ∨ X.env.scope.names.lookup x = some .free
  glob : ∀ x, kd sc x = some .globalImplicit → X.env.scope.names.lookup x = some .globalImplicit
/-- what the making of a lambda needs -/
structure MkOk (Nm : Names) (FA : Fns) (X : Cx) (w : W0) : Prop where
  tab : ∃ c P, X.env.code = .ref c ∧ LamX.TabB X.base X.mg c P ∧ (P, X.env.qual ++ "<lambda>") ∈ w.T ∧ (∀ p ∈ w.T, p.1 = P → p.2 = X.env.qual ++ "<lambda>") ∧ P ∈ w.M
  ml : ∀ k params scope body, Nm.lamB k params scope body = true → FA.ml k ⟨X.env.qual ++ "<lambda>", params, body, scope⟩ ∧ (∀ y ∈ scope.names, y.2 ≠ .free) ∧ ∀ env, defaultsOf params env = ([], [])
structure ScM (Nm : Names) (FA : Fns) (X : Cx) (w : W0) (sc : Scope) : Prop extends ScR X sc where
  mks : Nm.mks = true → MkOk Nm FA X w
def bltNames : List Str := ["len", "abs", "sum", "max", "min", "int", "list", "tuple", "sorted", "all", "str", "repr", "range", "enumerate", "isinstance", "bool", "set", "super"]
structure Cok (Nm : Names) (FA : Fns) (CA : Nat → Option Addr) (C : Cfg) (X : Cx) (W : WX) : Prop where
  calm : X.calm = true
  nd : X.N.Nodup
  un : X.A.units + 65 < cLine
  takes : Takes X W
  fns : ∀ f a, FA f = some a → ∃ x k fd, Nm.fn f = some x ∧ X.mg x = some (.ref a) ∧ PySem.W.keepIn X.K (.ref a) = true ∧ Binds X.K fd (Nm.pars f) [] ∧ Room k X.A ∧
    FnG X.prog X.w X.K X.mg X.base (CX X.prog X.w) k a fd (Nm.pars f) (spG X.K FA CA (C.sig f) (C.call f)) ∧
    ∀ n ks perm, (f, n, ks, perm) ∈ Nm.kw → ∀ (s : Shared) (us ws : List Value), X.K.In s.heap → us.length = n → ws.length = ks.length → BindsTo s fd ⟨us, ks.zip ws⟩ ((Nm.pars f).zip (permL .none us ws perm))
  lam : ∀ k L, FA.ml k L → ∃ n ps, Room n X.A ∧ (∀ (c : Addr) (pm ctv : Value) (us : List Value), us.length = ps.length → bindArgs (L.fd c pm ctv) ⟨us, []⟩ = pure (ps.zip us)) ∧
    ∀ f c pm ctv, FnG X.prog X.w X.K X.mg X.base (CX X.prog X.w) n f (L.fd c pm ctv) ps (spK X.K FA CA (C.sig k) (C.call k) f c L pm ctv)
  has : ∀ f x, Nm.fn f = some x → ∃ a, FA f = some a
  kns : ∀ j x i, Nm.kn j = some (x, i) → ∃ t, X.mg x = some (.int i t)
  blt : ∀ x ∈ bltNames, X.mg x = none
  gd : X.A.guards = some []
  rm : Room 2 X.A
  ca : CA = FA.ca
  cls : ∀ c x, Nm.cl c = some x → ∃ a, FA.ca c = some a ∧ X.mg x = some (.ref a)
  clf : ∀ c a, FA.ca c = some a → ClsF X a
  isc : ∀ c a k b, FA.ca c = some a → FA.ca k = some b → PySem.W.kitOne X.K (.ref a) (.ref b) = some (c == k)
  fit : ∀ x, Nm.fit = some x → ∃ b, X.mg x = some (.ref b) ∧ ∀ c a, FA.ca c = some a → PySem.W.exmOne X.K (.ref a) (.ref b) = some true
theorem takesF {X : Cx} : Takes X (fun _ _ _ _ => False) := fun _ _ ⟨_, _, _, _, _, _, _, _, _, _, _, _, _, _, _, _, z⟩ => z.elim
theorem Cok.blk {Nm : Names} {FA : Fns} {CA : Nat → Option Addr} {C : Cfg} {X : Cx} {W : WX} (c : Cok Nm FA CA C X W) (s : Shared) (H : Hp) (scope : Scope) (cenv : PySem.Env) (fp : List Addr) :
    Cok Nm FA CA C (X.blk s H scope cenv fp) (fun _ _ _ _ => False) :=
  ⟨c.calm, c.nd, c.un, takesF, c.fns, c.lam, c.has, c.kns, c.blt, c.gd, c.rm, c.ca, c.cls, fun k a h => let q := c.clf k a h; ⟨q.ini, q.xf, q.ex⟩, c.isc, c.fit⟩
/-! ### readings -/
section
variable (K : PySem.W.Frag) (FA : Fns) (CA : Nat → Option Addr) (W : WX) (w : W0)
/-- the end of an expression -/
def Post (pu : Bool) (σ : L2.St) (F H : Hp) (ts : List (Option V × O)) (Q : VK) : R O → Prop
  | .ok o env' => ∀ v H' F', env'.length = σ.length → Hs K FA w F' H' ((some v, o) :: (lv σ env' ++ ts)) → Sub F F' → (pu = true → Sub H H' ∧ Fresh K FA F' H H' v o) → Q v H'
  | .ex c ds => ∀ H' F' od a, CA c = some a → Sub F F' → HR w F' H' → ExcAt K FA F' H' ds od → W (.ref a) od σ H'
  | .no => False
def tE (C : Cfg) (m : X) : TE := fun σ H Q => ∃ F ts env, env.length = σ.length ∧ Hs K FA w F H (lv σ env ++ ts) ∧ Post K FA CA W w (pureX m) σ F H ts Q (evalE C m env)
def PostV (pu fl : Bool) (σ : L2.St) (F H : Hp) (ts : List (Option V × O)) (Q : VK) : R D → Prop
  | .ok d env' => ∀ v H' F', env'.length = σ.length → Hs K FA w F' H' (lv σ env' ++ ts) → RepV K FA F' H' v d → (fl = false → Rep K FA F' v d) → Sub F F' → (pu = true → Sub H H') → Q v H'
  | .ex c ds => ∀ H' F' od a, CA c = some a → Sub F F' → HR w F' H' → ExcAt K FA F' H' ds od → W (.ref a) od σ H'
  | .no => False
def tV (C : Cfg) (fl : Bool) (m : X) : TE := fun σ H Q => ∃ F ts env, env.length = σ.length ∧ Hs K FA w F H (lv σ env ++ ts) ∧ PostV K FA CA W w (pureX m) fl σ F H ts Q (viewE fl m (evalE C m env) env)
end
end RF
/-! RFe: operators. -/
namespace RF
open L2 PySem PySem.Spec PyProof.Rows
theorem PE.imp {X : Cx} {e : Expr} {t t' : TE} (h : PE X e t) (i : ∀ σ H Q, t' σ H Q → t σ H Q) : PE X e t' := ⟨fun pins s σ H Q I q => h.run pins s σ H Q I (i _ _ _ q)⟩
theorem PT.imp {X : Cx} {e : Expr} {t t' : TT} (h : PT X e t) (i : ∀ σ H Q, t' σ H Q → t σ H Q) : PT X e t' := ⟨fun pins s σ H Q I q => h.run pins s σ H Q I (i _ _ _ q)⟩
theorem PA.imp {X : Cx} {e : List Expr} {t t' : TA} (h : PA X e t) (i : ∀ σ H Q, t' σ H Q → t σ H Q) : PA X e t' := ⟨fun pos pins s σ H Q I q => h.run pos pins s σ H Q I (i _ _ _ q)⟩
/-! ### data -/
mutual
theorem Rep.dp {K : PySem.W.Frag} {FA : Fns} {H : Hp} : ∀ (n : Nat) {d : D} {v : V}, d.ok n = true → Rep K FA H v d → Dp K H v d.py ∧ d.py.canLay0 = true ∧ d.py.depth ≤ n
  | _, _, _, _, .non => ⟨by simp only [D.py]; exact .non, by simp [D.py, PyData.canLay0], by simp [D.py, PyData.depth]⟩
  | _, _, _, _, .bl b => ⟨by simp only [D.py]; exact .bl b, by simp [D.py, PyData.canLay0], by simp [D.py, PyData.depth]⟩
  | _, _, _, _, .int i => ⟨by simp only [D.py]; exact .int i, by simp [D.py, PyData.canLay0], by simp [D.py, PyData.depth]⟩
  | n, .str x, _, e, .str _ => ⟨by simp only [D.py]; exact .str x, by cases n <;> simpa [D.py, PyData.canLay0, D.ok] using e, by simp [D.py, PyData.depth]⟩
  | 0, .lst _, _, e, _ => by simp [D.ok] at e
  | n + 1, .lst ds, _, e, .lst h r => by
    obtain ⟨h1, h2, h3⟩ := Reps.dp n (by simpa [D.ok] using e) r
    refine ⟨by simp only [D.py]; exact .lst (.of h) h1, by simpa [D.py, PyData.canLay0] using h2, ?_⟩
    simp only [D.py, PyData.depth]; omega
  | 0, .tup _, _, e, _ => by simp [D.ok] at e
  | n + 1, .tup ds, _, e, .tup h r => by
    obtain ⟨h1, h2, h3⟩ := Reps.dp n (by simpa [D.ok] using e) r
    refine ⟨by simp only [D.py]; exact .tup (.of h) h1, by simpa [D.py, PyData.canLay0] using h2, ?_⟩
    simp only [D.py, PyData.depth]; omega
  | n, .scr _, _, e, _ => by cases n <;> simp [D.ok] at e
  | n, .fn _, _, e, _ => by cases n <;> simp [D.ok] at e
  | n, .clo _ _, _, e, _ => by cases n <;> simp [D.ok] at e
  | n, .exc _ _, _, e, _ => by cases n <;> simp [D.ok] at e
theorem Reps.dp {K : PySem.W.Frag} {FA : Fns} {H : Hp} : ∀ (n : Nat) {ds : List D} {vs : List V}, (∀ d ∈ ds, d.ok n = true) → Reps K FA H vs ds → DpAll K H vs (D.pys ds) ∧ PyData.canLayAll0 (D.pys ds) = true ∧ PyData.depthAll (D.pys ds) ≤ n
  | n, _, _, _, .nil => ⟨by simp only [D.pys]; exact .nil, by simp [D.pys, PyData.canLayAll0], by simp [D.pys, PyData.depthAll]⟩
  | n, _, _, e, .cons h r => by
    obtain ⟨a1, a2, a3⟩ := Rep.dp n (e _ List.mem_cons_self) h
    obtain ⟨b1, b2, b3⟩ := Reps.dp n (fun d m => e d (List.mem_cons_of_mem _ m)) r
    refine ⟨by simp only [D.pys]; exact .cons a1 b1, by simp [D.pys, PyData.canLayAll0, a2, b2], ?_⟩
    simp only [D.pys, PyData.depthAll]; omega
end
theorem Rep.shaped {K : PySem.W.Frag} {FA : Fns} {H : Hp} {d : D} {v : V} (e : d.ok 60 = true) (r : Rep K FA H v d) : Dp K H v d.py ∧ SeqAt.shaped d.py = true := by
  obtain ⟨h1, h2, h3⟩ := r.dp 60 e
  exact ⟨h1, by unfold SeqAt.shaped; rw [h2, decide_eq_true (show d.py.depth ≤ 64 by omega)]; rfl⟩
/-! ### binary operators -/
section
variable {X : Cx}
/-- // by any divisor but nought -/
theorem op_fdivNW : OpR X (binaryOp .FloorDiv) (rI (fun _ j => j ≠ 0 ∧ j.natAbs.log2 < 9000) fun i j => .int (i.fdiv j)) := opI fun _ _ _ _ _ _ _ hc q => floordiv_int hc.1 q (.inl (PyProof.noPylong_of_log2 hc.2))
theorem op_powW : OpR X (binaryOp .Pow) (rI (fun i j => 0 ≤ j ∧ i.natAbs.log2 + 1 ≤ 3000 ∧ j ≤ 3000) fun i j => .int (i ^ j.toNat)) := opI fun i j _ _ _ _ _ hc q => by
  refine pow_int hc.1 ?_ q
  have b : Builtin.Int.intBits i ≤ i.natAbs.log2 + 1 := by
    unfold Builtin.Int.intBits
    split <;> omega
  have h1 : ((Builtin.Int.intBits i : Nat) : Int) ≤ 3000 := by omega
  have h2 : ((Builtin.Int.intBits i : Nat) : Int) * j ≤ 3000 * 3000 := Int.mul_le_mul h1 hc.2.2 hc.1 (by decide)
  exact Int.le_trans h2 (by decide)
def rBop (K : PySem.W.Frag) : Bop → R2
  | .add => fun x y H Q => rI0 (fun i j => .int (i + j)) x y H Q ∨ rCat x y H Q
  | .sub => rI0 fun i j => .int (i - j)
  | .mul => fun x y H Q => rI CMulW (fun i j => .int (i * j)) x y H Q ∨ rRep x y H Q
  | .fdiv => rI (fun _ j => j ≠ 0 ∧ j.natAbs.log2 < 9000) fun i j => .int (i.fdiv j)
  | .mod => rI (fun _ j => j ≠ 0) fun i j => .int (i.fmod j)
  | .pow => rI (fun i j => 0 ≤ j ∧ i.natAbs.log2 + 1 ≤ 3000 ∧ j ≤ 3000) fun i j => .int (i ^ j.toNat)
theorem op_bop {o : Bop} {op : Operator} (h : bopIs o op = true) : OpR X (binaryOp op) (rBop X.K o) := by
  cases o <;> cases op <;> first | (exact absurd h (by decide)) | skip
  · exact op_add.or op_cat
  · exact op_sub
  · exact op_mulW.or op_rep
  · exact op_fdivNW
  · exact op_modN
  · exact op_powW
theorem mulOk_ok {i j : Int} (h : mulOk i j = true) : CMulW i j := of_decide_eq_true (p := i.natAbs.log2 + j.natAbs.log2 < 1000000) h
theorem line20 {n m : Nat} (h : n < 2 ^ 20) (h' : m < 2 ^ 20) : n + m ≤ sizeLine := by
  have e : (sizeLine : Nat) = 2 ^ 24 := rfl
  omega
variable {FA : Fns} {w : W0} {F F' H H' : Hp} {ps : List (Option V × O)} {v x y : V} {o : O} {dx dy : D}
/-- a new value's state -/
def Done (K : PySem.W.Frag) (FA : Fns) (w : W0) (F H : Hp) (ps : List (Option V × O)) (o : O) (Q : VK) : Prop :=
  ∀ v H' F', Hs K FA w F' H' ((some v, o) :: ps) → Sub F F' → Sub H H' → Fresh K FA F' H H' v o → Q v H'
theorem Done.z {K : PySem.W.Frag} {d : D} {Q : VK} (h : Done K FA w F H ps (.z d) Q) (s : Hs K FA w F H ps) (r : Rep K FA F v d) : Q v H :=
  h v H F (s.add r) (Sub.refl _) (Sub.refl _) ⟨[], .z r, fun _ m => nomatch m⟩
theorem sub_upd {p : Addr} {ob : HO} (hp : H p = none) : Sub H (upd H p ob) := fun b z e => by rw [upd_ne (ne_of_none e hp)]; exact e
theorem Hs.freshList {K : PySem.W.Frag} {ds : List D} {vs : List V} {p : Addr} {Q : VK} (h : Done K FA w F H ps (.l (ds.map .z)) Q) (s : Hs K FA w F H ps) (r : Reps K FA F vs ds) (hp : H p = none) : Q (.ref p) (upd H p (.lst vs)) := by
  have s1 := s.newList r hp
  refine h _ _ F s1 (Sub.refl _) (sub_upd hp) ⟨[p], .l (A := []) upd_same (RepOs.of_reps r), fun a m => ?_⟩
  rw [List.mem_singleton.mp m]; exact hp
theorem bop_ok {K : PySem.W.Frag} {b : Bop} {Q : VK} (s : Hs K FA w F H ps) (hx : RepV K FA F H x dx) (hy : RepV K FA F H y dy) (e : binop b dx dy = some o) (h : Done K FA w F H ps o Q) : rBop K b x y H Q := by
  have two : ∀ {i j : Int}, dx = .int i → dy = .int j → x = .int i ∧ y = .int j := fun e1 e2 => by
    subst e1; subst e2
    exact ⟨hx.int, hy.int⟩
  unfold binop at e
  split at e
  · obtain ⟨rfl, rfl⟩ := two rfl rfl
    cases e
    exact .inl ⟨_, _, rfl, rfl, h.z s (.int _)⟩
  · split at e
    · rename_i hl
      cases e
      obtain ⟨a, vs, rfl, h1, r1⟩ := hx.lst s.1.sub
      obtain ⟨a', vs', rfl, h2, r2⟩ := hy.lst s.1.sub
      have hl' : (_ ∧ _) := Bool.and_eq_true_iff.mp hl
      exact .inr ⟨a, a', vs, vs', rfl, rfl, h1, h2, by
        rw [r1.length, r2.length]
        exact line20 (of_decide_eq_true hl'.1) (of_decide_eq_true hl'.2), fun p hp => Hs.freshList h s (r1.append r2) hp⟩
    · cases e
  · obtain ⟨rfl, rfl⟩ := two rfl rfl
    cases e
    exact ⟨_, _, rfl, rfl, h.z s (.int _)⟩
  · split at e
    · rename_i hm
      obtain ⟨rfl, rfl⟩ := two rfl rfl
      cases e
      exact .inl ⟨_, _, rfl, rfl, mulOk_ok hm, h.z s (.int _)⟩
    · cases e
  · split at e
    · rename_i hm
      cases e
      obtain ⟨a, vs, rfl, h1, r1⟩ := hx.lst s.1.sub
      have ey := hy.int
      subst ey
      have hm1 := Bool.and_eq_true_iff.mp hm
      have hm2 := Bool.and_eq_true_iff.mp hm1.1
      have b1 := of_decide_eq_true hm1.2
      have b2 := of_decide_eq_true hm2.1
      have b3 := of_decide_eq_true hm2.2
      refine .inr ⟨a, _, vs, rfl, rfl, h1, by omega, by omega, ?_, fun p hp => Hs.freshList h s (r1.rep _) hp⟩
      rw [r1.length]
      have : (sizeLine : Nat) = 2 ^ 24 := rfl
      rw [this]
      refine Nat.le_trans (Nat.mul_le_mul (Nat.le_of_lt b2) (show _ ≤ 1024 by omega)) (by decide)
    · cases e
  · split at e
    · rename_i hm
      obtain ⟨rfl, rfl⟩ := two rfl rfl
      cases e
      have hm' := Bool.and_eq_true_iff.mp hm
      exact ⟨_, _, rfl, rfl, ⟨of_decide_eq_true hm'.1, of_decide_eq_true hm'.2⟩, h.z s (.int _)⟩
    · cases e
  · split at e
    · rename_i hm
      obtain ⟨rfl, rfl⟩ := two rfl rfl
      cases e
      exact ⟨_, _, rfl, rfl, of_decide_eq_true hm, h.z s (.int _)⟩
    · cases e
  · split at e
    · rename_i hm
      obtain ⟨rfl, rfl⟩ := two rfl rfl
      cases e
      have hm1 := Bool.and_eq_true_iff.mp hm
      have hm2 := Bool.and_eq_true_iff.mp hm1.1
      exact ⟨_, _, rfl, rfl, ⟨of_decide_eq_true hm2.1, of_decide_eq_true hm2.2, of_decide_eq_true hm1.2⟩, h.z s (.int _)⟩
    · cases e
  · cases e
/-! ### comparisons -/
theorem plain_bl {x : V} {v : Value} {b : Bool} (r : RelV x v) : plainIs v (.bool b) = true := by
  cases x <;> first | (obtain ⟨t, rfl⟩ := r; rfl) | (cases r; rfl)
theorem op_isB : OpR X (compareOp .Is) (fun x y H Q => ∃ b, y = .bl b ∧ Q (.bl (decide (x = .bl b))) H) := by
  intro pins s σ H x y v u Q I rx ry h
  obtain ⟨b, rfl, q⟩ := h
  cases (show u = Value.bool b from ry)
  refine wpAny_is_plain (plain_bl rx) ⟨.bl _, H, I, ?_, q⟩
  show _ = _
  congr 1
  by_cases e : x = .bl b
  · subst e
    cases (show v = Value.bool b from rx)
    simp
  · rw [decide_eq_false e]
    refine beq_eq_false_iff_ne.mpr fun z => e ?_
    subst z
    exact RelV.inj (u := .bool b) rx rfl
theorem op_isnB : OpR X (compareOp .IsNot) (fun x y H Q => ∃ b, y = .bl b ∧ Q (.bl (!decide (x = .bl b))) H) := by
  intro pins s σ H x y v u Q I rx ry h
  obtain ⟨b, rfl, q⟩ := h
  cases (show u = Value.bool b from ry)
  refine wpAny_isNot_plain (plain_bl rx) ⟨.bl _, H, I, ?_, q⟩
  show _ = _
  congr 2
  by_cases e : x = .bl b
  · subst e
    cases (show v = Value.bool b from rx)
    simp
  · rw [decide_eq_false e]
    refine beq_eq_false_iff_ne.mpr fun z => e ?_
    subst z
    exact RelV.inj (u := .bool b) rx rfl
def rCop (K : PySem.W.Frag) : Cop → R2
  | .eq => rEqD K
  | .ne => rNeD K
  | .lt => fun x y H Q => rI0 (fun i j => .bl (decide (i < j))) x y H Q ∨ rLtT K x y H Q
  | .le => rI0 fun i j => .bl (decide (i ≤ j))
  | .gt => rI0 fun i j => .bl (decide (j < i))
  | .ge => fun x y H Q => rI0 (fun i j => .bl (decide (j ≤ i))) x y H Q ∨ RX.rGeP K x y H Q
  | .mem => rInD K
  | .nmem => rNotInD K
  | .is => fun x y H Q => (y = .non ∧ Q (.bl (decide (x = .non))) H) ∨ ∃ b, y = .bl b ∧ Q (.bl (decide (x = .bl b))) H
  | .isn => fun x y H Q => (y = .non ∧ Q (.bl (!decide (x = .non))) H) ∨ ∃ b, y = .bl b ∧ Q (.bl (!decide (x = .bl b))) H
theorem op_cop {o : Cop} {op : CmpOp} (hu : X.A.units + 65 < cLine) (h : copIs o op = true) : OpR X (compareOp op) (rCop X.K o) := by
  cases o <;> cases op <;> first | (exact absurd h (by decide)) | skip
  · exact op_eqD (by omega)
  · exact op_neD (by omega)
  · exact op_lt.or (op_ltT (by omega))
  · exact op_le
  · exact op_gt
  · exact op_ge.or (RX.op_geP (by omega))
  · exact op_inD hu
  · exact op_notInD hu
  · exact op_isN.or op_isB
  · exact op_notN.or op_isnB
theorem any_py {a : D} : ∀ {ds : List D}, (D.pys ds).any (fun z => PyData.eqv z a.py) = ds.any fun z => D.eqv z a
  | [] => rfl
  | d :: ds => by simp only [D.pys, List.any_cons, any_py]; rfl
theorem RepV.non (h : RepV X.K FA F H x .non) : x = .non := by
  cases h with
  | rep h => cases h; rfl
theorem RepV.bl {b : Bool} (h : RepV X.K FA F H x (.bl b)) : x = .bl b := by
  cases h with
  | rep h => cases h; rfl
theorem isn_iff (h : RepV X.K FA F H x dx) : decide (x = V.non) = dx.isNon := by
  cases h with
  | rep h => cases h <;> rfl
  | l h r => rfl
theorem isb_iff {b : Bool} (h : RepV X.K FA F H x dx) : decide (x = V.bl b) = dx.isBl b := by
  cases h with
  | rep h =>
    cases h <;> first | rfl | skip
    rename_i c
    by_cases e : c = b
    · subst e; simp [D.isBl]
    · have : ¬ V.bl c = V.bl b := fun z => e (V.bl.inj z)
      rw [decide_eq_false this]
      exact (beq_eq_false_iff_ne.mpr (Ne.symm e)).symm
  | l h r => rfl
theorem RepV.tupInts {ns : List Int} (h : RepV X.K FA F H x dx) (s : Sub F H) (e : tupInts? dx = some ns) : ∃ a, x = .ref a ∧ SqT X.K H a (ns.map V.int) := by
  cases dx with
  | tup ds =>
    obtain ⟨a, vs, rfl, h1, r⟩ := h.tup s
    obtain ⟨rfl, _⟩ := r.of_ints (show ints? ds = some ns from e)
    exact ⟨a, rfl, .of h1⟩
  | _ => simp [tupInts?] at e
theorem cop_ok {b : Cop} {k : Bool} {Q : VK} (s : Hs X.K FA w F H ps) (hx : RepV X.K FA F H x dx) (hy : RepV X.K FA F H y dy) (e : cmpop b dx dy = some k) (h : Q (.bl k) H) : rCop X.K b x y H Q := by
  have two : ∀ {i j : Int}, dx = .int i → dy = .int j → x = .int i ∧ y = .int j := fun e1 e2 => by
    subst e1; subst e2
    exact ⟨hx.int, hy.int⟩
  have vx := hx.view s.1.sub
  have vy := hy.view s.1.sub
  unfold cmpop at e
  split at e
  · split at e
    · rename_i hm
      cases e
      have hm' := Bool.and_eq_true_iff.mp hm
      exact ⟨_, _, (vx.shaped hm'.1).1, (vy.shaped hm'.2).1, (vx.shaped hm'.1).2, (vy.shaped hm'.2).2, h⟩
    · cases e
  · split at e
    · rename_i hm
      cases e
      have hm' := Bool.and_eq_true_iff.mp hm
      exact ⟨_, _, (vx.shaped hm'.1).1, (vy.shaped hm'.2).1, (vx.shaped hm'.1).2, (vy.shaped hm'.2).2, h⟩
    · cases e
  · obtain ⟨rfl, rfl⟩ := two rfl rfl
    cases e
    exact .inl ⟨_, _, rfl, rfl, h⟩
  · cases e1 : tupInts? dx with
    | none => rw [e1] at e; cases e
    | some ns =>
      rw [e1] at e
      cases e2 : tupInts? dy with
      | none => rw [e2] at e; cases e
      | some ms =>
        rw [e2] at e
        cases e
        obtain ⟨a, rfl, h1⟩ := hx.tupInts s.1.sub e1
        obtain ⟨a', rfl, h2⟩ := hy.tupInts s.1.sub e2
        exact .inr ⟨a, a', ns, ms, rfl, rfl, h1, h2, h⟩
  · obtain ⟨rfl, rfl⟩ := two rfl rfl
    cases e
    exact ⟨_, _, rfl, rfl, h⟩
  · obtain ⟨rfl, rfl⟩ := two rfl rfl
    cases e
    exact ⟨_, _, rfl, rfl, h⟩
  · obtain ⟨rfl, rfl⟩ := two rfl rfl
    cases e
    exact .inl ⟨_, _, rfl, rfl, h⟩
  · rename_i i j k l
    cases e
    obtain ⟨a, rfl, h1⟩ := hx.tupInts (ns := [i, j]) s.1.sub rfl
    obtain ⟨a', rfl, h2⟩ := hy.tupInts (ns := [k, l]) s.1.sub rfl
    exact .inr ⟨a, a', i, j, k, l, rfl, rfl, h1, h2, h⟩
  · split at e
    · rename_i hm
      cases e
      have hm' := Bool.and_eq_true_iff.mp hm
      have h1 := vx.shaped hm'.1
      have h2 := vy.shaped hm'.2
      simp only [D.py] at h2
      refine ⟨_, _, h1.1, h2.1, h1.2, h2.2, ?_⟩
      rw [any_py]; exact h
    · cases e
  · split at e
    · rename_i hm
      cases e
      have hm' := Bool.and_eq_true_iff.mp hm
      have h1 := vx.shaped hm'.1
      have h2 := vy.shaped hm'.2
      simp only [D.py] at h2
      refine ⟨_, _, h1.1, h2.1, h1.2, h2.2, ?_⟩
      rw [any_py]; exact h
    · cases e
  · cases e
    exact .inl ⟨hy.non, by rw [isn_iff hx]; exact h⟩
  · cases e
    exact .inr ⟨_, hy.bl, by rw [isb_iff hx]; exact h⟩
  · cases e
    refine .inl ⟨hy.non, ?_⟩
    rw [isn_iff hx]
    exact h
  · cases e
    refine .inr ⟨_, hy.bl, ?_⟩
    rw [isb_iff hx]
    exact h
  · cases e
end
end RF
/-! RFf: built-ins, isinstance, items, slices. -/
namespace RF
open L2 PySem PySem.Spec PyProof.Rows
inductive RepVs (K : PySem.W.Frag) (FA : Fns) (F H : Hp) : List V → List D → Prop
  | nil : RepVs K FA F H [] []
  | cons {v : V} {d : D} {vs : List V} {ds : List D} : RepV K FA F H v d → RepVs K FA F H vs ds → RepVs K FA F H (v :: vs) (d :: ds)
section
variable {K : PySem.W.Frag} {FA : Fns} {w : W0} {F F' H H' : Hp} {ps : List (Option V × O)} {v x y : V} {o : O} {d dx dy : D}
theorem RepVs.one {vs : List V} (h : RepVs K FA F H vs [d]) : ∃ v, vs = [v] ∧ RepV K FA F H v d := by
  cases h with
  | cons h r => cases r; exact ⟨_, rfl, h⟩
theorem RepVs.two {vs : List V} (h : RepVs K FA F H vs [dx, dy]) : ∃ v u, vs = [v, u] ∧ RepV K FA F H v dx ∧ RepV K FA F H u dy := by
  cases h with
  | cons h r =>
    cases r with
    | cons h' r => cases r; exact ⟨_, _, rfl, h, h'⟩
/-! ### the types of values -/
def tyName : D → String
  | .non => "NoneType" | .bl _ => "bool" | .int _ => "int" | .str _ => "str" | .lst _ => "list" | .tup _ => "tuple" | _ => ""
theorem RepV.ty (h : RepV K FA F H v d) (s : Sub F H) (e : isiV .int d ≠ none) : TyX K H v (.type (tyName d)) := by
  refine .base ?_
  cases h with
  | rep h =>
    cases h with
    | non => exact .non
    | bl b => exact .bl b
    | int i => exact .int i
    | str x => exact .str x
    | lst h r => exact .lst (s _ _ h)
    | tup h r => exact .tup (s _ _ h)
    | scr h => exact absurd rfl e
    | fn h => exact absurd rfl e
    | clo h1 h2 h3 => exact absurd rfl e
    | exc h1 h2 h3 r => exact absurd rfl e
  | l h r => exact .lst h
def tyStr : Ty → String
  | .int => "int" | .bool => "bool" | .str => "str" | .list => "list" | .tuple => "tuple" | .lt => "list"
theorem isi_some {t : Ty} {d : D} {b : Bool} (e : isiV t d = some b) : isiV .int d ≠ none := by
  cases d <;> first | (simp [isiV]; done) | (cases t <;> simp [isiV] at e)
theorem isi_kit {K : PySem.W.Frag} {t : Ty} {d : D} {b : Bool} (ht : t ≠ .lt) (e : isiV t d = some b) : PySem.W.kitOne K (.type (tyName d)) (.type (tyStr t)) = some b := by
  refine kit_ty ?_
  cases t <;> first | (exact absurd rfl ht) | skip
  all_goals (cases d <;> simp [isiV] at e <;> subst e <;> simp only [tyName, tyStr] <;> decide +kernel)
theorem isi_kit2 {K : PySem.W.Frag} {d : D} {b : Bool} (e : isiV .lt d = some b) : PySem.W.kitAny K (.type (tyName d)) [.type "list", .type "tuple"] = some b := by
  have n1 : ∀ {t : Value} {x y : Bool}, PySem.W.kitOne K t (.type "list") = some x → PySem.W.kitOne K t (.type "tuple") = some y → PySem.W.kitAny K t [.type "list", .type "tuple"] = some (x || y) := fun {t x y} h1 h2 => by
    refine kitAny_cons h1 (fun z => ?_) (fun z => by rw [z]; rfl)
    rw [z, Bool.false_or]
    refine kitAny_cons h2 (fun z => ?_) (fun z => z)
    rw [z]; rfl
  cases d <;> simp [isiV] at e <;> subst e <;> simp only [tyName] <;> first
    | exact n1 (x := false) (y := false) (kit_ty (by decide +kernel)) (kit_ty (by decide +kernel))
    | exact n1 (x := true) (y := false) (kit_ty (by decide +kernel)) (kit_ty (by decide +kernel))
    | exact n1 (x := false) (y := true) (kit_ty (by decide +kernel)) (kit_ty (by decide +kernel))
end
section
variable {X : Cx} {FA : Fns} {w : W0} {F F' H H' : Hp} {ps : List (Option V × O)} {v x y : V} {o : O} {d dx dy : D}
/-! ### built-ins -/
def rBlt (K : PySem.W.Frag) : Blt → List V → Hp → VK → Prop
  | .len => fun xs H Q => ∃ p ys, xs = [.ref p] ∧ (SqL K H p ys ∨ SqT K H p ys) ∧ Q (.int ys.length) H
  | .abs => fun xs H Q => ∃ i, xs = [.int i] ∧ Q (.int (if i < 0 then -i else i)) H
  | .sum => rSum K
  | .max2 => fun xs H Q => ∃ i j, xs = [.int i, .int j] ∧ Q (.int (if j > i then j else i)) H
  | .min2 => fun xs H Q => ∃ i j, xs = [.int i, .int j] ∧ Q (.int (if j < i then j else i)) H
  | .max1 => rMax K
  | .min1 => rMin K
  | .int => fun xs H Q => (∃ i, xs = [.int i] ∧ Q (.int i) H) ∨ ∃ k, xs = [.bl k] ∧ Q (.int (if k then 1 else 0)) H
  | .list => fun xs H Q => ∃ p ys, xs = [.ref p] ∧ (SqL K H p ys ∨ SqT K H p ys) ∧ ∀ l, H l = none → Q (.ref l) (upd H l (.lst ys))
  | .tuple => fun xs H Q => ∃ p ys, xs = [.ref p] ∧ ((SqL K H p ys ∧ ∀ l, H l = none → Q (.ref l) (upd H l (.tup ys))) ∨ (SqT K H p ys ∧ Q (.ref p) H))
  | .all => rAll K
  | .repr => fun xs H Q => ∃ (p : Addr) (d : PyData), xs = [.ref p] ∧ Dp K H (.ref p) d ∧ d.depth ≤ 60 ∧ d.showable = true ∧ d.hasDict = false ∧ d.shown.length ≤ sizeLine ∧ Q (.str d.shown) H
  | _ => fun _ _ _ => False
theorem max_uniq {ns : List Int} {m k : Int} (e : ns.max? = some m) (h1 : k ∈ ns) (h2 : ∀ y, y ∈ ns → y ≤ k) : k = m := by
  have h := List.max?_eq_some_iff.mp e
  exact Int.le_antisymm (h.2 k h1) (h2 m h.1)
theorem min_uniq {ns : List Int} {m k : Int} (e : ns.min? = some m) (h1 : k ∈ ns) (h2 : ∀ y, y ∈ ns → k ≤ y) : k = m := by
  have h := List.min?_eq_some_iff.mp e
  exact Int.le_antisymm (h2 m h.1) (h.2 k h1)
theorem blt_ok {b : Blt} {vs : List V} {ds : List D} {Q : VK} (s : Hs X.K FA w F H ps) (hv : RepVs X.K FA F H vs ds) (e : bltV b ds = some o) (h : Done X.K FA w F H ps o Q) : rBlt X.K b vs H Q := by
  have sb := s.1.sub
  unfold bltV at e
  split at e
  · obtain ⟨v, rfl, r⟩ := hv.one
    cases e
    obtain ⟨a, us, rfl, h1, r1⟩ := r.lst sb
    refine ⟨a, us, rfl, .inl (.of h1), ?_⟩
    rw [r1.length]
    exact h.z s (.int _)
  · obtain ⟨v, rfl, r⟩ := hv.one
    cases e
    obtain ⟨a, us, rfl, h1, r1⟩ := r.tup sb
    refine ⟨a, us, rfl, .inr (.of h1), ?_⟩
    rw [r1.length]
    exact h.z s (.int _)
  · obtain ⟨v, rfl, r⟩ := hv.one
    cases e
    obtain ⟨a, rfl, h1⟩ := r.scr sb
    refine ⟨a, _, rfl, .inl h1, ?_⟩
    rw [List.length_map]
    exact h.z s (.int _)
  · obtain ⟨v, rfl, r⟩ := hv.one
    cases e
    obtain rfl := r.int
    exact ⟨_, rfl, h.z s (.int _)⟩
  · obtain ⟨v, rfl, r⟩ := hv.one
    obtain ⟨a, us, rfl, h1, r1⟩ := r.lst sb
    cases e1 : ints? _ with
    | none => rw [e1] at e; cases e
    | some ns =>
      rw [e1] at e
      cases e
      obtain ⟨rfl, _⟩ := r1.of_ints e1
      exact ⟨a, ns, rfl, .of h1, h.z s (.int _)⟩
  · obtain ⟨v, u, rfl, r, r'⟩ := hv.two
    cases e
    obtain rfl := r.int
    obtain rfl := r'.int
    exact ⟨_, _, rfl, h.z s (.int _)⟩
  · obtain ⟨v, u, rfl, r, r'⟩ := hv.two
    cases e
    obtain rfl := r.int
    obtain rfl := r'.int
    exact ⟨_, _, rfl, h.z s (.int _)⟩
  · obtain ⟨v, rfl, r⟩ := hv.one
    obtain ⟨a, us, rfl, h1, r1⟩ := r.lst sb
    cases e1 : ints? _ with
    | none => rw [e1] at e; cases e
    | some ns =>
      rw [e1] at e
      obtain ⟨rfl, _⟩ := r1.of_ints e1
      cases e2 : ns.max? with
      | none => simp [e2] at e
      | some m =>
        simp [e2] at e
        subst e
        have hm := List.max?_eq_some_iff.mp e2
        exact ⟨a, ns, rfl, .of h1, List.length_pos_of_mem hm.1, fun k k1 k2 => by rw [max_uniq e2 k1 k2]; exact h.z s (.int _)⟩
  · obtain ⟨v, rfl, r⟩ := hv.one
    obtain ⟨a, us, rfl, h1, r1⟩ := r.lst sb
    cases e1 : ints? _ with
    | none => rw [e1] at e; cases e
    | some ns =>
      rw [e1] at e
      obtain ⟨rfl, _⟩ := r1.of_ints e1
      cases e2 : ns.min? with
      | none => simp [e2] at e
      | some m =>
        simp [e2] at e
        subst e
        have hm := List.min?_eq_some_iff.mp e2
        exact ⟨a, ns, rfl, .of h1, List.length_pos_of_mem hm.1, fun k k1 k2 => by rw [min_uniq e2 k1 k2]; exact h.z s (.int _)⟩
  · obtain ⟨v, rfl, r⟩ := hv.one
    cases e
    obtain rfl := r.int
    exact .inl ⟨_, rfl, h.z s (.int _)⟩
  · obtain ⟨v, rfl, r⟩ := hv.one
    cases e
    obtain rfl := r.bl
    exact .inr ⟨_, rfl, h.z s (.int _)⟩
  · obtain ⟨v, rfl, r⟩ := hv.one
    cases e
    obtain ⟨a, us, rfl, h1, r1⟩ := r.lst sb
    exact ⟨a, us, rfl, .inl (.of h1), fun p hp => Hs.freshList h s r1 hp⟩
  · obtain ⟨v, rfl, r⟩ := hv.one
    cases e
    obtain ⟨a, us, rfl, h1, r1⟩ := r.tup sb
    exact ⟨a, us, rfl, .inr (.of h1), fun p hp => Hs.freshList h s r1 hp⟩
  · obtain ⟨v, rfl, r⟩ := hv.one
    cases e
    obtain ⟨a, us, rfl, h1, r1⟩ := r.lst sb
    refine ⟨a, us, rfl, .inl ⟨.of h1, fun p hp => ?_⟩⟩
    have s1 := s.allocT (xs := us) hp
    have fp : F p = none := by
      cases z : F p with
      | none => rfl
      | some ob => rw [sb _ _ z] at hp; cases hp
    have r2 : Rep X.K FA (upd F p (.tup us)) (.ref p) (.tup _) := .tup upd_same (r1.mono (sub_upd fp))
    exact h _ _ _ (s1.add r2) (sub_upd fp) (sub_upd hp) ⟨[], .z r2, fun _ m => nomatch m⟩
  · obtain ⟨v, rfl, r⟩ := hv.one
    obtain ⟨a, us, rfl, h1, r1⟩ := r.lst sb
    cases e1 : bls? _ with
    | none => rw [e1] at e; cases e
    | some ns =>
      rw [e1] at e
      cases e
      obtain rfl := r1.of_bls e1
      exact ⟨a, ns, rfl, .of h1, h.z s (.bl _)⟩
  · rename_i ds0
    split at e
    · rename_i hk
      cases e
      obtain ⟨v, rfl, r⟩ := hv.one
      unfold reprOk at hk
      simp only [Bool.and_eq_true, decide_eq_true_eq, Bool.not_eq_true'] at hk
      obtain ⟨⟨k1, k2, k3⟩, k4⟩ := hk
      obtain ⟨q1, q2, q3⟩ := (r.view sb).dp 60 k1
      obtain ⟨a, us, rfl, _, _⟩ := r.lst sb
      exact ⟨a, _, rfl, q1, q3, k2, k3, by omega, h.z s (.str _)⟩
    · cases e
  · cases e
/-! ### items -/
theorem ix_ok {j : Int} {dd : D} {Q : VK} (s : Hs X.K FA w F H ps) (hx : RepV X.K FA F H x dx) (e : (match dx with | .lst ds => (atI ds j) | .tup ds => (atI ds j) | .scr ns => (atI ns j).map fun n => D.int n | _ => none) = some dd)
    (h : Done X.K FA w F H ps (.z dd) Q) : rIx X.K x (.int j) H Q := by
  have sb := s.1.sub
  cases dx with
  | lst ds =>
    obtain ⟨a, us, rfl, h1, r1⟩ := hx.lst sb
    have e : atI ds j = some dd := e
    unfold atI at e
    cases e1 : ixN ds.length j with
    | none => rw [e1] at e; cases e
    | some k =>
      rw [e1] at e
      obtain ⟨v, e2, r2⟩ := r1.get (show ds[k]? = some dd from e)
      refine .inl ⟨a, us, j, v, rfl, rfl, .of h1, ?_, h.z s r2⟩
      unfold atI
      rw [r1.length, e1]
      exact e2
  | tup ds =>
    obtain ⟨a, us, rfl, h1, r1⟩ := hx.tup sb
    have e : atI ds j = some dd := e
    unfold atI at e
    cases e1 : ixN ds.length j with
    | none => rw [e1] at e; cases e
    | some k =>
      rw [e1] at e
      obtain ⟨v, e2, r2⟩ := r1.get (show ds[k]? = some dd from e)
      refine .inr (.inl ⟨a, us, j, v, rfl, rfl, .of h1, ?_, h.z s r2⟩)
      unfold atI
      rw [r1.length, e1]
      exact e2
  | scr ns =>
    obtain ⟨a, rfl, h1⟩ := hx.scr sb
    have e : (atI ns j).map (fun n => D.int n) = some dd := e
    unfold atI at e
    cases e1 : ixN ns.length j with
    | none => rw [e1] at e; cases e
    | some k =>
      rw [e1] at e
      cases e2 : ns[k]? with
      | none => simp [e2] at e
      | some n =>
        simp [e2] at e
        subst e
        refine .inl ⟨a, _, j, .int n, rfl, rfl, h1, ?_, h.z s (.int _)⟩
        unfold atI
        rw [List.length_map, e1]
        simp [e2]
  | _ => cases e
/-! ### slices -/
theorem cutL_map {α β : Type} (f : α → β) (xs : List α) (lo hi : Option Int) : cutL (xs.map f) lo hi = (cutL xs lo hi).map f := by
  unfold cutL
  rw [List.length_map, List.drop_eq_drop_iff.mpr rfl, ← List.map_drop, ← List.map_take]
theorem cutV_eq (xs : List V) (lo hi : Option Int) : cutV xs lo hi = cutL xs lo hi := rfl
theorem sl_ok {lo hi : Option Int} {Q : VK} {o : O} (s : Hs X.K FA w F H ps) (hx : RepV X.K FA F H x dx) (e : (match dx with | .lst ds => some (O.l ((cutL ds lo hi).map .z)) | .scr ns => some (O.l ((cutL ns lo hi).map fun n => .z (.int n))) | _ => none) = some o)
    (h : Done X.K FA w F H ps o Q) : rSlL X.K x lo hi H Q := by
  have sb := s.1.sub
  cases dx with
  | lst ds =>
    obtain ⟨a, us, rfl, h1, r1⟩ := hx.lst sb
    cases e
    refine ⟨a, us, rfl, .of h1, fun p hp => ?_⟩
    refine Hs.freshList h s ?_ hp
    rw [cutV_eq]
    unfold cutL
    rw [r1.length]
    exact (r1.drop _).take _
  | scr ns =>
    obtain ⟨a, rfl, h1⟩ := hx.scr sb
    cases e
    refine ⟨a, _, rfl, h1, fun p hp => ?_⟩
    have h' : Done X.K FA w F H ps (.l (((cutL ns lo hi).map D.int).map .z)) Q := by rw [List.map_map]; exact h
    refine Hs.freshList h' s ?_ hp
    rw [cutV_eq, cutL_map]
    exact Reps.ints
  | _ => cases e
end
end RF
/-! RFg: readings of expressions. -/
namespace RF
open L2 PySem PySem.Spec PyProof.Rows
section
variable {Nm : Names} {FA : Fns} {CA : Nat → Option Addr} {C : Cfg} {X : Cx} {W : WX} {w : W0} {sc : Scope}
variable {σ : L2.St} {F F1 H H1 : Hp} {ts : List (Option V × O)} {Q Q1 : VK} {pu pu1 fl : Bool}
theorem Fresh.weak {K : PySem.W.Frag} {F' H0 H H' : Hp} {v : V} {o : O} (h : Fresh K FA F' H H' v o) (s : Sub H0 H) : Fresh K FA F' H0 H' v o := by
  obtain ⟨A, r, n⟩ := h
  refine ⟨A, r, fun a m => ?_⟩
  cases e : H0 a with
  | none => rfl
  | some x => rw [← s _ _ e, n a m]
theorem Fresh.mono {K : PySem.W.Frag} {F F' H0 H H' : Hp} {v : V} {o : O} (h : Fresh K FA F H0 H v o) (s : Sub F F') (t : Sub H H') : Fresh K FA F' H0 H' v o := by
  obtain ⟨A, r, n⟩ := h
  exact ⟨A, r.frame s (fun a m => by obtain ⟨xs, e⟩ := r.dom a m; rw [e]; exact t _ _ e) t.tups, n⟩
theorem Fresh.z {K : PySem.W.Frag} {F H0 H : Hp} {v : V} {d : D} (h : Rep K FA F v d) : Fresh K FA F H0 H v (.z d) := ⟨[], .z h, fun _ m => nomatch m⟩
theorem Hs.swapTemp {K : PySem.W.Frag} {p q : Option V × O} {l : List (Option V × O)} (s : Hs K FA w F H (p :: (l ++ q :: ts))) : Hs K FA w F H (q :: p :: (l ++ ts)) :=
  s.perm (((List.perm_middle).cons p).trans (.swap _ _ _))
theorem Hs.toTemp {K : PySem.W.Frag} {p : Option V × O} {l : List (Option V × O)} (s : Hs K FA w F H (p :: (l ++ ts))) : Hs K FA w F H (l ++ p :: ts) := s.perm List.perm_middle.symm
theorem Hs.ofTemp {K : PySem.W.Frag} {p : Option V × O} {l : List (Option V × O)} (s : Hs K FA w F H (l ++ p :: ts)) : Hs K FA w F H (p :: (l ++ ts)) := s.perm List.perm_middle
theorem Post.rebase {r : R O} (h : Post X.K FA CA W w pu σ F H ts Q r) (sF : Sub F F1) (sH : pu = true → Sub H H1) : Post X.K FA CA W w pu σ F1 H1 ts Q r := by
  cases r with
  | ok o env => exact fun v H' F' hl s sf p => h v H' F' hl s (sF.trans sf) fun z => ⟨(sH z).trans (p z).1, (p z).2.weak (sH z)⟩
  | ex c ds => exact fun H' F' od a e sf hr x => h H' F' od a e (sF.trans sf) hr x
  | no => exact h
theorem Post.temp {r : R O} {p : Option V × O} (h : Post X.K FA CA W w pu σ F H ts Q r) : Post X.K FA CA W w pu σ F H (p :: ts) Q r := by
  cases r with
  | ok o env => exact fun v H' F' hl s sf p => h v H' F' hl s.swapTemp.tail sf p
  | ex c ds => exact h
  | no => exact h
theorem Post.weakP {r : R O} (h : Post X.K FA CA W w pu σ F H ts Q r) (e : pu = true → pu1 = true) : Post X.K FA CA W w pu1 σ F H ts Q r := by
  cases r with
  | ok o env => exact fun v H' F' hl s sf p => h v H' F' hl s sf fun z => p (e z)
  | ex c ds => exact h
  | no => exact h
theorem bindV {r : R D} {k : D → Env → R O} (post : Post X.K FA CA W w pu σ F H ts Q (r.bind k))
    (hk : ∀ d env1 v H1 F1, r = .ok d env1 → env1.length = σ.length → Hs X.K FA w F1 H1 (lv σ env1 ++ ts) → RepV X.K FA F1 H1 v d → (fl = false → Rep X.K FA F1 v d) → Sub F F1 → (pu1 = true → Sub H H1) →
      Post X.K FA CA W w pu σ F H ts Q (k d env1) → Q1 v H1) : PostV X.K FA CA W w pu1 fl σ F H ts Q1 r := by
  cases r with
  | ok d env => exact fun v H' F' hl s rv rf sf p => hk d env v H' F' rfl hl s rv rf sf p post
  | ex c ds => exact post
  | no => exact post
theorem bindE {r : R O} {k : O → Env → R O} (post : Post X.K FA CA W w pu σ F H ts Q (r.bind k))
    (hk : ∀ o env1 v H1 F1, r = .ok o env1 → env1.length = σ.length → Hs X.K FA w F1 H1 ((some v, o) :: (lv σ env1 ++ ts)) → Sub F F1 → (pu1 = true → Sub H H1 ∧ Fresh X.K FA F1 H H1 v o) →
      Post X.K FA CA W w pu σ F H ts Q (k o env1) → Q1 v H1) : Post X.K FA CA W w pu1 σ F H ts Q1 r := by
  cases r with
  | ok d env => exact fun v H' F' hl s sf p => hk d env v H' F' rfl hl s sf p post
  | ex c ds => exact post
  | no => exact post
/-- a value that is made at once -/
theorem Post.done {o : O} {env : Env} (post : Post X.K FA CA W w pu σ F H ts Q (.ok o env)) (hl : env.length = σ.length) : Done X.K FA w F H (lv σ env ++ ts) o Q :=
  fun v H' F' s sF sH fr => post v H' F' hl s sF fun _ => ⟨sH, fr⟩
theorem Post.z {d : D} {env : Env} {v : V} (post : Post X.K FA CA W w pu σ F H ts Q (.ok (.z d) env)) (hl : env.length = σ.length) (s : Hs X.K FA w F H (lv σ env ++ ts)) (r : Rep X.K FA F v d) : Q v H :=
  (post.done hl).z s r
/-! ### names -/
theorem visB_ok (r : ScR X sc) {i : Nat} {x : Str} (h : visB X.N sc i x = true) : X.N[i]? = some x ∧ Vis X.env.scope x ∧ (x == ("__debug__" : Str)) = false ∧ (x == ("__classdict__" : Str)) = false := by
  unfold visB at h
  simp only [Bool.and_eq_true, Bool.or_eq_true, decide_eq_true_eq, Bool.not_eq_true'] at h
  obtain ⟨⟨⟨h1, h2⟩, h3⟩, h4⟩ := h
  refine ⟨h1, ?_, h3, h4⟩
  rcases h2 with (h2 | h2) | h2
  · exact .inl (r.loc x h2)
  · exact .inr (.inl (r.cell x h2).1)
  · rcases r.free x h2 with z | z
    · exact .inr (.inl z)
    · exact .inr (.inr z)
theorem glB_ok (r : ScR X sc) {x : Str} (h : glB sc x = true) : Gl X x ∧ (x == ("__debug__" : Str)) = false := by
  unfold glB at h
  simp only [Bool.and_eq_true, decide_eq_true_eq, Bool.not_eq_true'] at h
  exact ⟨r.glob x h.1, h.2⟩
theorem pe_slot (r : ScR X sc) {i : Nat} {x : Str} {pos : Pos} (h : visB X.N sc i x = true) : PE X (.Name x pos) (tVar i) := by
  obtain ⟨h1, h2, h3, h4⟩ := visB_ok r h
  exact pe_var h1 h2 h3 h4
theorem c_v (r : ScR X sc) {i : Nat} {x : Str} {pos : Pos} (h : visB X.N sc i x = true) : PE X (.Name x pos) (tE X.K FA CA W w C (.v i)) := by
  refine PE.imp (pe_slot r h) fun σ H Q ⟨F, ts, env, hl, s, post⟩ => ?_
  unfold evalE at post
  cases e : getE env i with
  | none => rw [e] at post; exact post.elim
  | some o =>
    rw [e] at post
    cases o with
    | z d =>
      obtain ⟨v, e1, rp⟩ := s.slotRep hl e
      exact ⟨v, e1, post.z hl s rp⟩
    | l os =>
      obtain ⟨v, e1, s1⟩ := s.take hl e
      obtain ⟨F', sF, s2⟩ := s1.freeze
      have rp := s2.rep
      have s3 := s2.back hl e1
      exact ⟨v, e1, post v H F' (by rw [List.length_set]; exact hl) (s3.add rp) sF fun _ => ⟨Sub.refl _, Fresh.z rp⟩⟩
    | t os =>
      obtain ⟨v, e1, s1⟩ := s.take hl e
      obtain ⟨F', sF, s2⟩ := s1.freeze
      have rp := s2.rep
      have s3 := s2.back hl e1
      exact ⟨v, e1, post v H F' (by rw [List.length_set]; exact hl) (s3.add rp) sF fun _ => ⟨Sub.refl _, Fresh.z rp⟩⟩
/-- a value that is looked at -/
theorem sV_gen {e : Expr} {m : RF.X} (h : PE X e (tE X.K FA CA W w C m)) (hv : ∀ env, viewE fl m (evalE C m env) env = (evalE C m env).bind fun o env1 => .ok o.toD env1) : PE X e (tV X.K FA CA W w C fl m) := by
  refine PE.imp h fun σ H Q ⟨F, ts, env, hl, s, post⟩ => ⟨F, ts, env, hl, s, ?_⟩
  rw [hv] at post
  cases e1 : evalE C m env with
  | ok o env1 =>
    rw [e1] at post
    intro v H' F' hl' s' sf p
    obtain ⟨F2, sF2, s2⟩ := s'.freeze
    exact post v H' F2 hl' s2.tail (.rep s2.rep) (fun _ => s2.rep) (sf.trans sF2) fun z => (p z).1
  | ex c ds => rw [e1] at post; exact post
  | no => rw [e1] at post; exact post
theorem c_vV (r : ScR X sc) {i : Nat} {x : Str} {pos : Pos} (h : visB X.N sc i x = true) : PE X (.Name x pos) (tV X.K FA CA W w C fl (.v i)) := by
  refine PE.imp (pe_slot r h) fun σ H Q ⟨F, ts, env, hl, s, post⟩ => ?_
  have own : ∀ o, getE env i = some o → (∀ d, o ≠ .z d) → viewE fl (.v i) (evalE C (.v i) env) env = if fl && o.flat then R.ok o.toD env else R.ok o.toD (env.set i (some (frz o))) := fun o e nz => by
    unfold viewE evalE
    simp only [e]
    cases o with
    | z d => exact absurd rfl (nz d)
    | l os => simp only [frz, O.toD, R.bind_ok]
    | t os => simp only [frz, O.toD, R.bind_ok]
  have go : ∀ o, getE env i = some o → (∀ d, o ≠ .z d) → tVar i σ H Q := fun o e nz => by
    rw [own o e nz] at post
    split at post
    · rename_i z
      have z' := Bool.and_eq_true_iff.mp z
      obtain ⟨v, e1, s1⟩ := s.take hl e
      obtain ⟨A, ro⟩ := s1.head
      exact ⟨v, e1, post v H F hl s (ro.viewV s.1.tups z'.2) (fun z2 => by rw [z2] at z'; cases z'.1) (Sub.refl _) fun _ => Sub.refl _⟩
    · obtain ⟨v, e1, s1⟩ := s.take hl e
      obtain ⟨F', sF, s2⟩ := s1.freeze
      have rp := s2.rep
      exact ⟨v, e1, post v H F' (by rw [List.length_set]; exact hl) (s2.back hl e1) (.rep rp) (fun _ => rp) sF fun _ => Sub.refl _⟩
  cases e : getE env i with
  | none => unfold viewE at post; simp only [e] at post; exact post.elim
  | some o =>
    cases o with
    | z d =>
      unfold viewE at post
      simp only [e] at post
      obtain ⟨v, e1, rp⟩ := s.slotRep hl e
      exact ⟨v, e1, post v H F hl s (.rep rp) (fun _ => rp) (Sub.refl _) fun _ => Sub.refl _⟩
    | l os => exact go _ e fun d z => by cases z
    | t os => exact go _ e fun d z => by cases z
theorem sV {e : Expr} {m : RF.X} (r : ScR X sc) (hi : isE Nm X.N m sc e = true) (h : PE X e (tE X.K FA CA W w C m)) : PE X e (tV X.K FA CA W w C fl m) := by
  cases m with
  | v i =>
    cases e with
    | Name x pos => exact c_vV r (by simpa [isE] using hi)
    | _ => simp [isE] at hi
  | _ => exact sV_gen h fun env => rfl
/-! ### constants -/
theorem c_const {e : Expr} {m : RF.X} {v : V} {d : D} (h : PE X e (tC v)) (he : ∀ env, evalE C m env = .ok (.z d) env) (rp : ∀ F, Rep X.K FA F v d) : PE X e (tE X.K FA CA W w C m) := by
  refine PE.imp h fun σ H Q ⟨F, ts, env, hl, s, post⟩ => ?_
  rw [he] at post
  exact post.z hl s (rp F)
/-! ### operators -/
theorem c_bin {a b : RF.X} {o : Bop} {op : Operator} {x y : Expr} {pos : Pos} (ho : bopIs o op = true) (ha : PE X x (tV X.K FA CA W w C (pureX b) a)) (hb : PE X y (tV X.K FA CA W w C true b)) : PE X (.BinOp x op y pos) (tE X.K FA CA W w C (.bin o a b)) := by
  refine PE.imp (pe_op (op_bop ho) ha hb) fun σ H Q ⟨F, ts, env, hl, s, post⟩ => ⟨F, ts, env, hl, s, ?_⟩
  unfold evalE at post
  refine bindV post fun dx env1 vx H1 F1 _ hl1 s1 rx rf sF1 p1 post => ⟨F1, ts, env1, hl1, s1, ?_⟩
  have post := post.rebase sF1 fun z => p1 (by
    have z' : (pureX a && pureX b) = true := z
    exact (Bool.and_eq_true_iff.mp z').1)
  refine bindV post fun dy env2 vy H2 F2 _ hl2 s2 ry _ sF2 p2 post => ?_
  have post := post.rebase sF2 fun z => p2 (by
    have z' : (pureX a && pureX b) = true := z
    exact (Bool.and_eq_true_iff.mp z').2)
  have rx2 : RepV X.K FA F2 H2 vx dx := by
    cases e : pureX b with
    | true => exact rx.mono sF2 (p2 e)
    | false => exact .rep ((rf e).mono sF2)
  cases e : binop o dx dy with
  | none => rw [e] at post; exact post.elim
  | some q =>
    rw [e] at post
    exact bop_ok s2 rx2 ry e (post.done hl2)
theorem c_neg {a : RF.X} {x : Expr} {pos : Pos} (ha : PE X x (tE X.K FA CA W w C a)) : PE X (.UnaryOp .USub x pos) (tE X.K FA CA W w C (.neg a)) := by
  refine PE.imp (pe_un un_neg ha) fun σ H Q ⟨F, ts, env, hl, s, post⟩ => ⟨F, ts, env, hl, s, ?_⟩
  unfold evalE at post
  refine bindE post fun o env1 v H1 F1 _ hl1 s1 sF1 p1 post => ?_
  have post := post.rebase sF1 fun z => (p1 z).1
  split at post
  · obtain rfl := RepV.int (.rep s1.rep : RepV X.K FA F1 H1 v _)
    exact ⟨_, rfl, post.z hl1 s1.tail (.int _)⟩
  · exact post.elim
theorem i_not {a : RF.X} : ∀ σ H Q, tE X.K FA CA W w C (.not a) σ H Q → tE X.K FA CA W w C a σ H fun x H1 => ∃ c, x = .bl c ∧ Q (.bl (!c)) H1 := by
  refine fun σ H Q ⟨F, ts, env, hl, s, post⟩ => ⟨F, ts, env, hl, s, ?_⟩
  unfold evalE at post
  refine bindE post fun o env1 v H1 F1 _ hl1 s1 sF1 p1 post => ?_
  have post := post.rebase sF1 fun z => (p1 z).1
  split at post
  · obtain rfl := RepV.bl (.rep s1.rep : RepV X.K FA F1 H1 v _)
    exact ⟨_, rfl, post.z hl1 s1.tail (.bl _)⟩
  · exact post.elim
theorem c_not {a : RF.X} {x : Expr} {pos : Pos} (ha : PE X x (tE X.K FA CA W w C a)) (hb : PT X x (tTest (tE X.K FA CA W w C a))) :
    PE X (.UnaryOp .Not x pos) (tE X.K FA CA W w C (.not a)) ∧ PT X (.UnaryOp .Not x pos) (tTest (tE X.K FA CA W w C (.not a))) := by
  refine ⟨PE.imp (pe_not ha) i_not, ⟨fun pins s σ H Q I h => ?_⟩⟩
  have h' := i_not _ _ _ h
  refine isTrue_not (thn (hb.run pins s σ H (fun c H1 => Q (!c) H1) I ?_) fun _ _ z => z)
  obtain ⟨F, ts, env, hl, s, post⟩ := h'
  refine ⟨F, ts, env, hl, s, ?_⟩
  cases e : evalE C a env with
  | ok o env1 =>
    rw [e] at post
    intro v H1 F1 hl1 s1 sF1 p1
    obtain ⟨c, rfl, k, e1, q⟩ := post v H1 F1 hl1 s1 sF1 p1
    cases e1
    exact ⟨c, rfl, q⟩
  | ex c ds => rw [e] at post; exact post
  | no => rw [e] at post; exact post
theorem i_cmp {a b : RF.X} {o : Cop} : ∀ σ H Q, tE X.K FA CA W w C (.cmp o a b) σ H Q → tOp (rCop X.K o) (tV X.K FA CA W w C (pureX b) a) (tV X.K FA CA W w C true b) σ H Q := by
  refine fun σ H Q ⟨F, ts, env, hl, s, post⟩ => ⟨F, ts, env, hl, s, ?_⟩
  unfold evalE at post
  refine bindV post fun dx env1 vx H1 F1 _ hl1 s1 rx rf sF1 p1 post => ⟨F1, ts, env1, hl1, s1, ?_⟩
  have post := post.rebase sF1 fun z => p1 (by
    have z' : (pureX a && pureX b) = true := z
    exact (Bool.and_eq_true_iff.mp z').1)
  refine bindV post fun dy env2 vy H2 F2 _ hl2 s2 ry _ sF2 p2 post => ?_
  have post := post.rebase sF2 fun z => p2 (by
    have z' : (pureX a && pureX b) = true := z
    exact (Bool.and_eq_true_iff.mp z').2)
  have rx2 : RepV X.K FA F2 H2 vx dx := by
    cases e : pureX b with
    | true => exact rx.mono sF2 (p2 e)
    | false => exact .rep ((rf e).mono sF2)
  cases e : cmpop o dx dy with
  | none => rw [e] at post; exact post.elim
  | some q =>
    rw [e] at post
    exact cop_ok s2 rx2 ry e (post.z hl2 s2 (.bl _))
theorem c_cmp {a b : RF.X} {o : Cop} {op : CmpOp} {x y : Expr} {pos : Pos} (c : Cok Nm FA CA C X W) (ho : copIs o op = true) (hm : noMark op y = true) (ha : PE X x (tV X.K FA CA W w C (pureX b) a)) (hb : PE X y (tV X.K FA CA W w C true b)) :
    PE X (.Compare x [op] [y] pos) (tE X.K FA CA W w C (.cmp o a b)) ∧ PT X (.Compare x [op] [y] pos) (tTest (tE X.K FA CA W w C (.cmp o a b))) :=
  ⟨PE.imp (pe_cmpR (op_cop c.un ho) ha hb (by simpa [noMark] using hm)) i_cmp, PT.imp (pt_cmpR (op_cop c.un ho) ha hb (by simpa [noMark] using hm)) fun _ _ _ h => i_cmp _ _ _ h⟩
theorem i_cmp2 {a b d : RF.X} {o p : Cop} : ∀ σ H Q, tE X.K FA CA W w C (.cmp2 o p a b d) σ H Q → tChain (rCop X.K o) (rCop X.K p) (tV X.K FA CA W w C (pureX b) a) (tV X.K FA CA W w C (pureX d) b) (tV X.K FA CA W w C true d) σ H Q := by
  refine fun σ H Q ⟨F, ts, env, hl, s, post⟩ => ⟨F, ts, env, hl, s, ?_⟩
  unfold evalE at post
  have pp : ∀ {q : Prop}, (pureX a = true → pureX b = true → pureX d = true → q) → pureX (.cmp2 o p a b d) = true → q := fun h z => by
    have z' : (pureX a && pureX b && pureX d) = true := z
    have z1 := Bool.and_eq_true_iff.mp z'
    have z2 := Bool.and_eq_true_iff.mp z1.1
    exact h z2.1 z2.2 z1.2
  refine bindV post fun dx env1 vx H1 F1 _ hl1 s1 rx rf sF1 p1 post => ⟨F1, ts, env1, hl1, s1, ?_⟩
  have post := post.rebase sF1 (pp fun z _ _ => p1 z)
  refine bindV post fun dy env2 vy H2 F2 _ hl2 s2 ry ryf sF2 p2 post => ?_
  have post := post.rebase sF2 (pp fun _ z _ => p2 z)
  have rx2 : RepV X.K FA F2 H2 vx dx := by
    cases e : pureX b with
    | true => exact rx.mono sF2 (p2 e)
    | false => exact .rep ((rf e).mono sF2)
  cases e : cmpop o dx dy with
  | none => rw [e] at post; exact post.elim
  | some q =>
    rw [e] at post
    refine cop_ok s2 rx2 ry e ⟨q, rfl, ?_⟩
    cases q with
    | false =>
      rw [if_neg Bool.false_ne_true]
      exact post.z hl2 s2 (.bl _)
    | true =>
      rw [if_pos rfl]
      refine ⟨F2, ts, env2, hl2, s2, ?_⟩
      refine bindV post fun dw env3 vw H3 F3 _ hl3 s3 rw3 _ sF3 p3 post => ?_
      have post := post.rebase sF3 (pp fun _ _ z => p3 z)
      have ry3 : RepV X.K FA F3 H3 vy dy := by
        cases e : pureX d with
        | true => exact ry.mono sF3 (p3 e)
        | false => exact .rep ((ryf e).mono sF3)
      cases e : cmpop p dy dw with
      | none => rw [e] at post; exact post.elim
      | some q =>
        rw [e] at post
        exact cop_ok s3 ry3 rw3 e (post.z hl3 s3 (.bl _))
theorem c_cmp2 {a b d : RF.X} {o p : Cop} {op op' : CmpOp} {x y z : Expr} {pos : Pos} (c : Cok Nm FA CA C X W) (ho : copIs o op = true) (ho' : copIs p op' = true) (hm : noMark op' z = true)
    (ha : PE X x (tV X.K FA CA W w C (pureX b) a)) (hb : PE X y (tV X.K FA CA W w C (pureX d) b)) (hd : PE X z (tV X.K FA CA W w C true d)) :
    PE X (.Compare x [op, op'] [y, z] pos) (tE X.K FA CA W w C (.cmp2 o p a b d)) ∧ PT X (.Compare x [op, op'] [y, z] pos) (tTest (tE X.K FA CA W w C (.cmp2 o p a b d))) := by
  have hm' : lastMarks [op, op'] [y, z] = false := by
    show behindInMarks op' z = false
    simpa [noMark] using hm
  exact ⟨PE.imp (pe_chain (op_cop c.un ho) (op_cop c.un ho') ha hb hd hm') i_cmp2, PT.imp (pt_chain (op_cop c.un ho) (op_cop c.un ho') ha hb hd hm') fun _ _ _ h => i_cmp2 _ _ _ h⟩
/-! ### tests -/
theorem i_ite {a b d : RF.X} : ∀ σ H Q, tE X.K FA CA W w C (.ite a b d) σ H Q → tIf (tTest (tE X.K FA CA W w C a)) (tE X.K FA CA W w C b) (tE X.K FA CA W w C d) σ H Q := by
  refine fun σ H Q ⟨F, ts, env, hl, s, post⟩ => ⟨F, ts, env, hl, s, ?_⟩
  unfold evalE at post
  have pp : ∀ {q : Prop}, (pureX a = true → pureX b = true → pureX d = true → q) → pureX (.ite a b d) = true → q := fun h z => by
    have z' : (pureX a && pureX b && pureX d) = true := z
    have z1 := Bool.and_eq_true_iff.mp z'
    have z2 := Bool.and_eq_true_iff.mp z1.1
    exact h z2.1 z2.2 z1.2
  refine bindE post fun o env1 v H1 F1 _ hl1 s1 sF1 p1 post => ?_
  have post := post.rebase sF1 (pp fun z _ _ => (p1 z).1)
  split at post
  · obtain rfl := RepV.bl (.rep s1.rep : RepV X.K FA F1 H1 v _)
    exact ⟨_, rfl, iteT ⟨F1, ts, env1, hl1, s1.tail, post.weakP (pp fun _ z _ => z)⟩⟩
  · obtain rfl := RepV.bl (.rep s1.rep : RepV X.K FA F1 H1 v _)
    exact ⟨_, rfl, iteF ⟨F1, ts, env1, hl1, s1.tail, post.weakP (pp fun _ _ z => z)⟩⟩
  · exact post.elim
theorem c_ite {a b d : RF.X} {x y z : Expr} {pos : Pos} (hc : PT X x (tTest (tE X.K FA CA W w C a))) (ha : PE X y (tE X.K FA CA W w C b)) (hb : PE X z (tE X.K FA CA W w C d)) : PE X (.IfExp x y z pos) (tE X.K FA CA W w C (.ite a b d)) :=
  PE.imp (pe_ifExp hc ha hb) i_ite
theorem isTrue_ite {M : Model} {A : Around} {E : Value → Shared → Prop} {s : Shared} {x y z : Expr} {pos : Pos} {env : PySem.Env} {whole : Sem Value} {Q : Bool → Shared → Prop}
    (h : wpAny M A (isTrue x env (eval x env)) (fun b s1 => if b = true then wpAny M A (isTrue y env (eval y env)) Q E s1 else wpAny M A (isTrue z env (eval z env)) Q E s1) E s) : wpAny M A (isTrue (.IfExp x y z pos) env whole) Q E s := by
  show wpAny M A (do if ← isTrue x env (eval x env) then isTrue y env (eval y env) else isTrue z env (eval z env)) Q E s
  refine wpAny_bind (wpAny_mono h (fun b s1 h1 => ?_) fun _ _ x => x)
  cases b with
  | true => exact h1
  | false => exact h1
theorem ct_ite {a b d : RF.X} {x y z : Expr} {pos : Pos} (hc : PT X x (tTest (tE X.K FA CA W w C a))) (ha : PT X y (tTest (tE X.K FA CA W w C b))) (hb : PT X z (tTest (tE X.K FA CA W w C d))) : PT X (.IfExp x y z pos) (tTest (tE X.K FA CA W w C (.ite a b d))) := by
  refine ⟨fun pins s σ H Q I h => ?_⟩
  have h' := i_ite _ _ _ h
  refine isTrue_ite (thn (hc.run pins s σ H _ I h') fun k s1 ⟨H1, I1, q1⟩ => ?_)
  cases k with
  | true => exact ha.run pins s1 σ H1 Q I1 q1
  | false => exact hb.run pins s1 σ H1 Q I1 q1
end
end RF
/-! RFh: lists of expressions; and, or; items, slices, built-ins. -/
namespace RF
open L2 PySem PySem.Spec PyProof.Rows
theorem notStar {Nm : Names} {N : List Str} {m : X} {sc : Scope} {e : Expr} {p : Pos} : isE Nm N m sc (.Starred e p) = false := by cases m <;> rfl
theorem notSlice {Nm : Names} {N : List Str} {m : X} {sc : Scope} {a b c : Option Expr} {p : Pos} : isE Nm N m sc (.Slice a b c p) = false := by cases m <;> rfl
theorem star_cons {Nm : Names} {N : List Str} {m : X} {sc : Scope} {e : Expr} {es : List Expr} {env : PySem.Env} (h : isE Nm N m sc e = true) : starEach (e :: es) env = (false, eval e env) :: starEach es env := by
  cases e <;> first | rfl | (rw [notStar] at h; cases h)
theorem star_any {Nm : Names} {N : List Str} {sc : Scope} {env : PySem.Env} {pos : Pos} : ∀ {es : Xs} {us : List Expr}, isEs Nm N es sc us = true → (backTo pos (starEach us env)).any (·.1) = false
  | .nil, [], _ => rfl
  | .nil, _ :: _, h => by simp [isEs] at h
  | .cons _ _, [], h => by simp [isEs] at h
  | .cons e es, u :: us, h => by
    have h' : isE Nm N e sc u = true ∧ isEs Nm N es sc us = true := by simpa [isEs] using h
    rw [star_cons h'.1]
    show (false || (backTo pos (starEach us env)).any (·.1)) = false
    rw [star_any h'.2]; rfl
theorem plainIx {Nm : Names} {N : List Str} {m : X} {sc : Scope} {e : Expr} (h : isE Nm N m sc e = true) : PlainIx e := fun o i => by
  cases e <;> first | rfl | (rw [notSlice] at h; cases h)
theorem evalEs_len {C : Cfg} : ∀ {es : Xs} {env env1 : Env} {os : List O}, evalEs C es env = .ok os env1 → os.length = xsLen es
  | .nil, _, _, _, h => by
    unfold evalEs at h; cases h; rfl
  | .cons e es, env, env1, os, h => by
    unfold evalEs at h
    cases e1 : evalE C e env with
    | ok o env2 =>
      rw [e1, R.bind_ok] at h
      cases e2 : evalEs C es env2 with
      | ok os2 env3 => rw [e2, R.bind_ok] at h; cases h; simp [xsLen, evalEs_len e2]
      | ex c ds => rw [e2] at h; cases h
      | no => rw [e2] at h; cases h
    | ex c ds => rw [e1] at h; cases h
    | no => rw [e1] at h; cases h
section
variable {Nm : Names} {FA : Fns} {CA : Nat → Option Addr} {C : Cfg} {X : Cx} {W : WX} {w : W0} {sc : Scope}
variable {σ : L2.St} {F F1 H H1 : Hp} {ts : List (Option V × O)} {Q Q1 : VK} {pu pu1 fl : Bool}
/-- an exception on the way -/
def exW (K : PySem.W.Frag) (FA : Fns) (CA : Nat → Option Addr) (W : WX) (w : W0) (σ : L2.St) (F : Hp) (c : Nat) (ds : List D) : Prop :=
  ∀ H' F' od a, CA c = some a → Sub F F' → HR w F' H' → ExcAt K FA F' H' ds od → W (.ref a) od σ H'
def PG {α : Type} (K : PySem.W.Frag) (FA : Fns) (CA : Nat → Option Addr) (W : WX) (w : W0) (σ : L2.St) (F : Hp) (P : α → Env → Prop) : R α → Prop
  | .ok a env => P a env
  | .ex c ds => exW K FA CA W w σ F c ds
  | .no => False
def okE (K : PySem.W.Frag) (FA : Fns) (w : W0) (pu : Bool) (σ : L2.St) (F H : Hp) (ts : List (Option V × O)) (Q : VK) : O → Env → Prop := fun o env' =>
  ∀ v H' F', env'.length = σ.length → Hs K FA w F' H' ((some v, o) :: (lv σ env' ++ ts)) → Sub F F' → (pu = true → Sub H H' ∧ Fresh K FA F' H H' v o) → Q v H'
theorem Post.pg {r : R O} : Post X.K FA CA W w pu σ F H ts Q r = PG X.K FA CA W w σ F (okE X.K FA w pu σ F H ts Q) r := by cases r <;> rfl
theorem PG.bind {α β : Type} {r : R α} {k : α → Env → R β} {P : β → Env → Prop} : PG X.K FA CA W w σ F P (r.bind k) = PG X.K FA CA W w σ F (fun a env => PG X.K FA CA W w σ F P (k a env)) r := by cases r <;> rfl
theorem PG.imp {α : Type} {r : R α} {P P' : α → Env → Prop} (h : PG X.K FA CA W w σ F P r) (i : ∀ a env, r = .ok a env → P a env → P' a env) : PG X.K FA CA W w σ F P' r := by
  cases r with
  | ok a env => exact i a env rfl h
  | ex c ds => exact h
  | no => exact h
theorem PG.rebase {α : Type} {r : R α} {P P' : α → Env → Prop} (h : PG X.K FA CA W w σ F P r) (sF : Sub F F1) (i : ∀ a env, P a env → P' a env) : PG X.K FA CA W w σ F1 P' r := by
  cases r with
  | ok a env => exact i a env h
  | ex c ds => exact fun H' F' od a e sf hr x => h H' F' od a e (sF.trans sf) hr x
  | no => exact h
theorem bindG {α : Type} {r : R O} {k : O → Env → R α} {P : α → Env → Prop} (post : PG X.K FA CA W w σ F P (r.bind k))
    (hk : ∀ o env1 v H1 F1, r = .ok o env1 → env1.length = σ.length → Hs X.K FA w F1 H1 ((some v, o) :: (lv σ env1 ++ ts)) → Sub F F1 → (pu1 = true → Sub H H1 ∧ Fresh X.K FA F1 H H1 v o) →
      PG X.K FA CA W w σ F P (k o env1) → Q1 v H1) : Post X.K FA CA W w pu1 σ F H ts Q1 r := by
  cases r with
  | ok d env => exact fun v H' F' hl s sf p => hk d env v H' F' rfl hl s sf p post
  | ex c ds => exact post
  | no => exact post
theorem bindVG {α : Type} {r : R D} {k : D → Env → R α} {P : α → Env → Prop} (post : PG X.K FA CA W w σ F P (r.bind k))
    (hk : ∀ d env1 v H1 F1, r = .ok d env1 → env1.length = σ.length → Hs X.K FA w F1 H1 (lv σ env1 ++ ts) → RepV X.K FA F1 H1 v d → (fl = false → Rep X.K FA F1 v d) → Sub F F1 → (pu1 = true → Sub H H1) →
      PG X.K FA CA W w σ F P (k d env1) → Q1 v H1) : PostV X.K FA CA W w pu1 fl σ F H ts Q1 r := by
  cases r with
  | ok d env => exact fun v H' F' hl s rv rf sf p => hk d env v H' F' rfl hl s rv rf sf p post
  | ex c ds => exact post
  | no => exact post
/-! ### lists of expressions -/
def FreshL (K : PySem.W.Frag) (FA : Fns) (F' H H' : Hp) (vs : List V) (os : List O) : Prop := ∃ A, RepOs K FA F' H' vs os A ∧ ∀ a ∈ A, H a = none
def okEs (K : PySem.W.Frag) (FA : Fns) (w : W0) (pu : Bool) (σ : L2.St) (F H : Hp) (ts : List (Option V × O)) (Q : List V → Hp → Prop) : List O → Env → Prop := fun os env' =>
  ∀ vs H' F', env'.length = σ.length → vs.length = os.length → Hs K FA w F' H' ((vs.map some).zip os ++ (lv σ env' ++ ts)) → Sub F F' → (pu = true → Sub H H' ∧ FreshL K FA F' H H' vs os) → Q vs H'
def tEs (K : PySem.W.Frag) (FA : Fns) (CA : Nat → Option Addr) (W : WX) (w : W0) (C : Cfg) (es : Xs) : TA := fun σ H Q => ∃ F ts env, env.length = σ.length ∧ Hs K FA w F H (lv σ env ++ ts) ∧ PG K FA CA W w σ F (okEs K FA w (pureXs es) σ F H ts Q) (evalEs C es env)
theorem c_nil : PA X [] (tEs X.K FA CA W w C .nil) := PA.imp pa_nil fun σ H Q ⟨F, ts, env, hl, s, post⟩ => post [] H F hl rfl s (Sub.refl _) fun _ => ⟨Sub.refl _, [], .nil, fun _ m => nomatch m⟩
theorem c_cons {e : RF.X} {es : Xs} {u : Expr} {us : List Expr} (hi : isE Nm X.N e sc u = true) (he : PE X u (tE X.K FA CA W w C e)) (hs : PA X us (tEs X.K FA CA W w C es)) : PA X (u :: us) (tEs X.K FA CA W w C (.cons e es)) := by
  refine PA.imp (pa_cons he hs (star_cons hi)) fun σ H Q ⟨F, ts, env, hl, s, post⟩ => ⟨F, ts, env, hl, s, ?_⟩
  unfold evalEs at post
  refine bindG post fun o env1 v H1 F1 _ hl1 s1 sF1 p1 post => ⟨F1, (some v, o) :: ts, env1, hl1, s1.toTemp, ?_⟩
  rw [PG.bind] at post
  refine post.rebase sF1 fun os env2 q vs H2 F2 hl2 hv s2 sF2 p2 => ?_
  have s3 : Hs X.K FA w F2 H2 ((some v, o) :: ((vs.map some).zip os ++ (lv σ env2 ++ ts))) := by
    rw [← List.append_assoc] at s2
    have := s2.ofTemp
    rwa [List.append_assoc] at this
  refine q (v :: vs) H2 F2 hl2 (by simp [hv]) s3 (sF1.trans sF2) fun z => ?_
  have z' := Bool.and_eq_true_iff.mp (show (pureX e && pureXs es) = true from z)
  obtain ⟨a1, a2⟩ := p1 z'.1
  obtain ⟨b1, B, b2, b3⟩ := p2 z'.2
  obtain ⟨A, a3, a4⟩ := a2.mono sF2 b1
  refine ⟨a1.trans b1, A ++ B, .cons a3 b2, fun a m => ?_⟩
  rcases List.mem_append.mp m with m | m
  · exact a4 a m
  · cases e : H a with
    | none => rfl
    | some x => rw [← a1 _ _ e, b3 a m]
theorem c_tup {es : Xs} {us : List Expr} {k : Nat} {pos : Pos} (hs : PA X us (tEs X.K FA CA W w C es)) (hz : xsLen es = us.length) (hz2 : us.length ≤ 1000) : PE X (.Tuple us k pos) (tE X.K FA CA W w C (.tup es)) := by
  refine PE.imp (pe_tup hs) fun σ H Q ⟨F, ts, env, hl, s, post⟩ => ⟨F, ts, env, hl, s, ?_⟩
  unfold evalE at post
  rw [Post.pg, PG.bind] at post
  refine post.imp fun os env1 he q vs H1 F1 hl1 hv s1 sF1 p1 => ⟨?_, fun p hp => ?_⟩
  · rw [hv]
    have : os.length = xsLen es := evalEs_len he
    have e24 : (sizeLine : Nat) = 2 ^ 24 := rfl
    omega
  · have s2 := s1.mkTup hv hp
    have fp : F1 p = none := by
      cases z : F1 p with
      | none => rfl
      | some ob => rw [s1.1.sub _ _ z] at hp; cases hp
    refine q _ _ _ hl1 s2 (sF1.trans (sub_upd fp)) fun z => ?_
    obtain ⟨a1, A, a2, a3⟩ := p1 z
    refine ⟨a1.trans (sub_upd hp), ?_⟩
    have a4 := a2.frame (F' := upd F1 p (.tup vs)) (H' := upd H1 p (.tup vs)) (sub_upd fp) (fun b m => by
      obtain ⟨xs, e⟩ := a2.dom b m
      exact upd_ne (ne_of_none e hp)) (sub_upd hp).tups
    by_cases zz : os.all O.isZ = true
    · rw [if_pos zz]
      obtain ⟨_, r3⟩ := a4.allZ zz
      exact Fresh.z (.tup upd_same r3)
    · rw [if_neg zz]
      exact ⟨A, .t upd_same a4, a3⟩
end
end RF
/-! RFi: displays; and, or; items, slices, built-ins. -/
namespace RF
open L2 PySem PySem.Spec PyProof.Rows
section
variable {Nm : Names} {FA : Fns} {CA : Nat → Option Addr} {C : Cfg} {X : Cx} {W : WX} {w : W0} {sc : Scope}
variable {σ : L2.St} {F F1 H H1 : Hp} {ts : List (Option V × O)} {Q Q1 : VK} {pu pu1 fl : Bool}
theorem Hs.nonew {K : PySem.W.Frag} {ps : List (Option V × O)} (s : Hs K FA w F H ps) {p : Addr} (hp : H p = none) : F p = none := by
  cases z : F p with
  | none => rfl
  | some ob => rw [s.1.sub _ _ z] at hp; cases hp
theorem c_lst {es : Xs} {us : List Expr} {pos : Pos} (hs : PA X us (tEs X.K FA CA W w C es)) (hz : xsLen es = us.length) (hz2 : us.length ≤ 1000) : PE X (.List us pos) (tE X.K FA CA W w C (.lst es)) := by
  refine PE.imp (pe_lst hs) fun σ H Q ⟨F, ts, env, hl, s, post⟩ => ⟨F, ts, env, hl, s, ?_⟩
  unfold evalE at post
  rw [Post.pg, PG.bind] at post
  refine post.imp fun os env1 he q vs H1 F1 hl1 hv s1 sF1 p1 => ⟨?_, fun p hp => ?_⟩
  · rw [hv]
    have : os.length = xsLen es := evalEs_len he
    have e24 : (sizeLine : Nat) = 2 ^ 24 := rfl
    omega
  · have s2 := s1.mkList hv hp
    refine q _ _ _ hl1 s2 sF1 fun z => ?_
    obtain ⟨a1, A, a2, a3⟩ := p1 z
    refine ⟨a1.trans (sub_upd hp), p :: A, .l upd_same (a2.frame (Sub.refl _) (fun b m => ?_) (sub_upd hp).tups), fun a m => ?_⟩
    · obtain ⟨xs, e⟩ := a2.dom b m
      exact upd_ne (ne_of_none e hp)
    · rcases List.mem_cons.mp m with e | m
      · rw [e]
        cases z : H p with
        | none => rfl
        | some x => rw [a1 _ _ z] at hp; cases hp
      · exact a3 a m
/-! ### and, or -/
def tAn (K : PySem.W.Frag) (FA : Fns) (CA : Nat → Option Addr) (W : WX) (w : W0) (C : Cfg) (es : Xs) : TE := fun σ H Q => ∃ F ts env, env.length = σ.length ∧ Hs K FA w F H (lv σ env ++ ts) ∧ Post K FA CA W w (pureXs es) σ F H ts Q (evalAnd C es env)
def tOr (K : PySem.W.Frag) (FA : Fns) (CA : Nat → Option Addr) (W : WX) (w : W0) (C : Cfg) (es : Xs) : TE := fun σ H Q => ∃ F ts env, env.length = σ.length ∧ Hs K FA w F H (lv σ env ++ ts) ∧ Post K FA CA W w (pureXs es) σ F H ts Q (evalOr C es env)
theorem PW.imp {e : Expr} {t t' : TT} (h : PW X e t) (i : ∀ σ H Q, t' σ H Q → t σ H Q) : PW X e t' := ⟨fun wh pins s σ H Q I q => h.run wh pins s σ H Q I (i _ _ _ q)⟩
theorem pxs1 {e : RF.X} : pureXs (.cons e .nil) = true → pureX e = true := fun z => (Bool.and_eq_true_iff.mp (show (pureX e && true) = true from z)).1
theorem i_and1 {e : RF.X} : ∀ σ H Q, tAn X.K FA CA W w C (.cons e .nil) σ H Q → tE X.K FA CA W w C e σ H Q := by
  refine fun σ H Q ⟨F, ts, env, hl, s, post⟩ => ⟨F, ts, env, hl, s, ?_⟩
  have q : evalAnd C (.cons e .nil) env = evalE C e env := by unfold evalAnd; rfl
  rw [q] at post
  cases e1 : evalE C e env with
  | ok o env1 => rw [e1] at post; exact fun v H' F' a b c d => post v H' F' a b c fun z => d (pxs1 z)
  | ex c ds => rw [e1] at post; exact post
  | no => rw [e1] at post; exact post
theorem i_or1 {e : RF.X} : ∀ σ H Q, tOr X.K FA CA W w C (.cons e .nil) σ H Q → tE X.K FA CA W w C e σ H Q := by
  refine fun σ H Q ⟨F, ts, env, hl, s, post⟩ => ⟨F, ts, env, hl, s, ?_⟩
  have q : evalOr C (.cons e .nil) env = evalE C e env := by unfold evalOr; rfl
  rw [q] at post
  cases e1 : evalE C e env with
  | ok o env1 => rw [e1] at post; exact fun v H' F' a b c d => post v H' F' a b c fun z => d (pxs1 z)
  | ex c ds => rw [e1] at post; exact post
  | no => rw [e1] at post; exact post
theorem and2 {e f : RF.X} {es : Xs} {env : Env} : evalAnd C (.cons e (.cons f es)) env = (evalE C e env).bind fun x env1 => match x with
    | .z (.bl true) => evalAnd C (.cons f es) env1
    | .z (.bl false) => .ok (.z (.bl false)) env1
    | _ => .no := by
  (conv => lhs; unfold evalAnd) <;> rfl
theorem or2 {e f : RF.X} {es : Xs} {env : Env} : evalOr C (.cons e (.cons f es)) env = (evalE C e env).bind fun x env1 => match x with
    | .z (.bl false) => evalOr C (.cons f es) env1
    | .z (.bl true) => .ok (.z (.bl true)) env1
    | _ => .no := by
  (conv => lhs; unfold evalOr) <;> rfl
theorem px2 {e : RF.X} {es : Xs} : pureXs (.cons e es) = true → pureX e = true ∧ pureXs es = true := fun z => Bool.and_eq_true_iff.mp z
theorem i_and2 {e f : RF.X} {es : Xs} : ∀ σ H Q, tAn X.K FA CA W w C (.cons e (.cons f es)) σ H Q → tE X.K FA CA W w C e σ H fun x H1 => ∃ c, x = .bl c ∧ if c = true then tAn X.K FA CA W w C (.cons f es) σ H1 Q else Q (.bl false) H1 := by
  refine fun σ H Q ⟨F, ts, env, hl, s, post⟩ => ⟨F, ts, env, hl, s, ?_⟩
  rw [and2] at post
  refine bindE post fun o env1 v H1 F1 _ hl1 s1 sF1 p1 post => ?_
  have post := post.rebase sF1 fun z => (p1 (px2 z).1).1
  split at post
  · obtain rfl := RepV.bl (.rep s1.rep : RepV X.K FA F1 H1 v _)
    exact ⟨_, rfl, iteT ⟨F1, ts, env1, hl1, s1.tail, post.weakP fun z => (px2 z).2⟩⟩
  · obtain rfl := RepV.bl (.rep s1.rep : RepV X.K FA F1 H1 v _)
    exact ⟨_, rfl, iteF (post.z hl1 s1.tail (.bl _))⟩
  · exact post.elim
theorem i_or2 {e f : RF.X} {es : Xs} : ∀ σ H Q, tOr X.K FA CA W w C (.cons e (.cons f es)) σ H Q → tE X.K FA CA W w C e σ H fun x H1 => ∃ c, x = .bl c ∧ if c = true then Q (.bl true) H1 else tOr X.K FA CA W w C (.cons f es) σ H1 Q := by
  refine fun σ H Q ⟨F, ts, env, hl, s, post⟩ => ⟨F, ts, env, hl, s, ?_⟩
  rw [or2] at post
  refine bindE post fun o env1 v H1 F1 _ hl1 s1 sF1 p1 post => ?_
  have post := post.rebase sF1 fun z => (p1 (px2 z).1).1
  split at post
  · obtain rfl := RepV.bl (.rep s1.rep : RepV X.K FA F1 H1 v _)
    exact ⟨_, rfl, iteF ⟨F1, ts, env1, hl1, s1.tail, post.weakP fun z => (px2 z).2⟩⟩
  · obtain rfl := RepV.bl (.rep s1.rep : RepV X.K FA F1 H1 v _)
    exact ⟨_, rfl, iteT (post.z hl1 s1.tail (.bl _))⟩
  · exact post.elim
theorem tTest_of {t : TE} {g : Bool → Hp → Prop} {σ : L2.St} {H : Hp} (mono : ∀ Q Q' : VK, (∀ v H', Q v H' → Q' v H') → t σ H Q → t σ H Q') (h : t σ H fun x H1 => ∃ c, x = .bl c ∧ g c H1) : tTest t σ H g :=
  mono _ _ (fun _ _ z => z) h
theorem tE_mono {m : RF.X} {σ : L2.St} {H : Hp} {Q Q' : VK} (i : ∀ v H', Q v H' → Q' v H') (h : tE X.K FA CA W w C m σ H Q) : tE X.K FA CA W w C m σ H Q' := by
  obtain ⟨F, ts, env, hl, s, post⟩ := h
  refine ⟨F, ts, env, hl, s, ?_⟩
  cases e : evalE C m env with
  | ok o env1 => rw [e] at post; exact fun v H' F' a b c d => i _ _ (post v H' F' a b c d)
  | ex c ds => rw [e] at post; exact post
  | no => rw [e] at post; exact post
theorem c_and1 {e : RF.X} {u : Expr} {pos : Pos} (h : PE X u (tE X.K FA CA W w C e)) (ht : PT X u (tTest (tE X.K FA CA W w C e))) :
    PE X (.BoolOp .And [u] pos) (tAn X.K FA CA W w C (.cons e .nil)) ∧ PW X (.BoolOp .And [u] pos) (tTest (tAn X.K FA CA W w C (.cons e .nil))) :=
  ⟨PE.imp (pe_one h) i_and1, PW.imp (pw_and1 ht) fun _ _ _ h => i_and1 _ _ _ h⟩
theorem c_or1 {e : RF.X} {u : Expr} {pos : Pos} (h : PE X u (tE X.K FA CA W w C e)) (ht : PT X u (tTest (tE X.K FA CA W w C e))) :
    PE X (.BoolOp .Or [u] pos) (tOr X.K FA CA W w C (.cons e .nil)) ∧ PW X (.BoolOp .Or [u] pos) (tTest (tOr X.K FA CA W w C (.cons e .nil))) :=
  ⟨PE.imp (pe_one h) i_or1, PW.imp (pw_or1 ht) fun _ _ _ h => i_or1 _ _ _ h⟩
theorem c_and2 {e f : RF.X} {es : Xs} {u u' : Expr} {us : List Expr} {pos : Pos} (h : PE X u (tE X.K FA CA W w C e)) (ht : PT X u (tTest (tE X.K FA CA W w C e)))
    (h2 : PE X (.BoolOp .And (u' :: us) pos) (tAn X.K FA CA W w C (.cons f es)) ∧ PW X (.BoolOp .And (u' :: us) pos) (tTest (tAn X.K FA CA W w C (.cons f es)))) :
    PE X (.BoolOp .And (u :: u' :: us) pos) (tAn X.K FA CA W w C (.cons e (.cons f es))) ∧ PW X (.BoolOp .And (u :: u' :: us) pos) (tTest (tAn X.K FA CA W w C (.cons e (.cons f es)))) := by
  refine ⟨PE.imp (pe_and h h2.1) i_and2, PW.imp (pw_and ht h2.2) fun σ H Q q => ?_⟩
  refine tE_mono (fun v H1 z => ?_) (i_and2 _ _ _ q)
  obtain ⟨c, rfl, z⟩ := z
  refine ⟨c, rfl, ?_⟩
  cases c with
  | true =>
    rw [if_pos rfl] at z
    exact iteT z
  | false =>
    rw [if_neg Bool.false_ne_true] at z
    obtain ⟨k, e1, q⟩ := z
    cases e1
    exact iteF q
theorem c_or2 {e f : RF.X} {es : Xs} {u u' : Expr} {us : List Expr} {pos : Pos} (h : PE X u (tE X.K FA CA W w C e)) (ht : PT X u (tTest (tE X.K FA CA W w C e)))
    (h2 : PE X (.BoolOp .Or (u' :: us) pos) (tOr X.K FA CA W w C (.cons f es)) ∧ PW X (.BoolOp .Or (u' :: us) pos) (tTest (tOr X.K FA CA W w C (.cons f es)))) :
    PE X (.BoolOp .Or (u :: u' :: us) pos) (tOr X.K FA CA W w C (.cons e (.cons f es))) ∧ PW X (.BoolOp .Or (u :: u' :: us) pos) (tTest (tOr X.K FA CA W w C (.cons e (.cons f es)))) := by
  refine ⟨PE.imp (pe_or h h2.1) i_or2, PW.imp (pw_or ht h2.2) fun σ H Q q => ?_⟩
  refine tE_mono (fun v H1 z => ?_) (i_or2 _ _ _ q)
  obtain ⟨c, rfl, z⟩ := z
  refine ⟨c, rfl, ?_⟩
  cases c with
  | false =>
    rw [if_neg Bool.false_ne_true] at z
    exact iteF z
  | true =>
    rw [if_pos rfl] at z
    obtain ⟨k, e1, q⟩ := z
    cases e1
    exact iteT q
/-! ### items, slices -/
theorem c_ix {a i : RF.X} {x y : Expr} {pos : Pos} (hi : isE Nm X.N i sc y = true) (ha : PE X x (tV X.K FA CA W w C (pureX i) a)) (hb : PE X y (tE X.K FA CA W w C i)) : PE X (.Subscript x y pos) (tE X.K FA CA W w C (.ix a i)) := by
  refine PE.imp (pe_ix ix_seq ha hb (plainIx hi)) fun σ H Q ⟨F, ts, env, hl, s, post⟩ => ⟨F, ts, env, hl, s, ?_⟩
  unfold evalE at post
  have pp := fun z => Bool.and_eq_true_iff.mp (show (pureX a && pureX i) = true from z)
  refine bindV post fun dx env1 vx H1 F1 _ hl1 s1 rx rf sF1 p1 post => ⟨F1, ts, env1, hl1, s1, ?_⟩
  have post := post.rebase sF1 fun z => p1 (pp z).1
  refine bindE post fun o env2 vy H2 F2 _ hl2 s2 sF2 p2 post => ?_
  have post := post.rebase sF2 fun z => (p2 (pp z).2).1
  have rx2 : RepV X.K FA F2 H2 vx dx := by
    cases e : pureX i with
    | true => exact rx.mono sF2 (p2 e).1
    | false => exact .rep ((rf e).mono sF2)
  cases o with
  | z d =>
    cases d with
    | int j =>
      obtain rfl := RepV.int (.rep s2.rep : RepV X.K FA F2 H2 vy _)
      cases dx with
      | lst ds =>
        cases e : atI ds j with
        | none => simp only [e] at post; exact post.elim
        | some d => simp only [e] at post; exact ix_ok s2.tail rx2 e (post.done hl2)
      | tup ds =>
        cases e : atI ds j with
        | none => simp only [e] at post; exact post.elim
        | some d => simp only [e] at post; exact ix_ok s2.tail rx2 e (post.done hl2)
      | scr ns =>
        cases e : atI ns j with
        | none => simp only [e] at post; exact post.elim
        | some d => simp only [e] at post; exact ix_ok s2.tail rx2 (dd := .int d) (by simp only [e]; rfl) (post.done hl2)
      | _ => exact post.elim
    | _ => cases dx <;> exact post.elim
  | _ => cases dx <;> exact post.elim
def okP (K : PySem.W.Frag) (FA : Fns) (w : W0) (pu : Bool) (σ : L2.St) (F H : Hp) (ts : List (Option V × O)) (Q : Option Int → Hp → Prop) : Option Int → Env → Prop := fun o env' =>
  ∀ H' F', env'.length = σ.length → Hs K FA w F' H' (lv σ env' ++ ts) → Sub F F' → (pu = true → Sub H H') → Q o H'
def tPo (K : PySem.W.Frag) (FA : Fns) (CA : Nat → Option Addr) (W : WX) (w : W0) (C : Cfg) (m : Xo) : TO := fun σ H Q => ∃ F ts env, env.length = σ.length ∧ Hs K FA w F H (lv σ env ++ ts) ∧ PG K FA CA W w σ F (okP K FA w (pureXo m) σ F H ts Q) (evalPart C m env)
theorem PO.imp {e : Option Expr} {t t' : TO} (h : PO X e t) (i : ∀ σ H Q, t' σ H Q → t σ H Q) : PO X e t' := ⟨fun pins s σ H Q I q => h.run pins s σ H Q I (i _ _ _ q)⟩
theorem c_poN : PO X none (tPo X.K FA CA W w C .none) := PO.imp po_none fun σ H Q ⟨F, ts, env, hl, s, post⟩ => post H F hl s (Sub.refl _) fun _ => Sub.refl _
theorem c_poS {m : RF.X} {e : Expr} (h : PE X e (tE X.K FA CA W w C m)) : PO X (some e) (tPo X.K FA CA W w C (.some m)) := by
  refine PO.imp (po_some h) fun σ H Q ⟨F, ts, env, hl, s, post⟩ => ⟨F, ts, env, hl, s, ?_⟩
  unfold evalPart at post
  refine bindG post fun o env1 v H1 F1 _ hl1 s1 sF1 p1 post => ?_
  split at post
  · obtain rfl := RepV.int (.rep s1.rep : RepV X.K FA F1 H1 v _)
    exact ⟨_, rfl, post H1 F1 hl1 s1.tail sF1 fun z => (p1 z).1⟩
  · exact post.elim
theorem c_sl {a : RF.X} {lo hi : Xo} {x : Expr} {l h : Option Expr} {p pos : Pos} (ha : PE X x (tV X.K FA CA W w C (pureXo lo && pureXo hi) a)) (hl : PO X l (tPo X.K FA CA W w C lo)) (hh : PO X h (tPo X.K FA CA W w C hi)) : PE X (.Subscript x (.Slice l h none p) pos) (tE X.K FA CA W w C (.sl a lo hi)) := by
  refine PE.imp (pe_slice sl_list ha hl hh) fun σ H Q ⟨F, ts, env, hl, s, post⟩ => ⟨F, ts, env, hl, s, ?_⟩
  unfold evalE at post
  have pp := fun z => Bool.and_eq_true_iff.mp (show (pureX a && pureXo lo && pureXo hi) = true from z)
  refine bindV post fun dx env1 vx H1 F1 _ hl1 s1 rx rf sF1 p1 post => ⟨F1, ts, env1, hl1, s1, ?_⟩
  have post := post.rebase sF1 fun z => p1 (Bool.and_eq_true_iff.mp (pp z).1).1
  rw [Post.pg, PG.bind] at post
  refine post.imp fun l env2 _ post H2 F2 hl2 s2 sF2 p2 => ⟨F2, ts, env2, hl2, s2, ?_⟩
  have post := Post.pg.mpr post
  have post := post.rebase sF2 fun z => p2 (Bool.and_eq_true_iff.mp (pp z).1).2
  rw [Post.pg, PG.bind] at post
  refine post.imp fun u env3 _ post H3 F3 hl3 s3 sF3 p3 => ?_
  have post := Post.pg.mpr post
  have post := post.rebase sF3 fun z => p3 (pp z).2
  have rx3 : RepV X.K FA F3 H3 vx dx := by
    cases e : (pureXo lo && pureXo hi) with
    | true =>
      have e' := Bool.and_eq_true_iff.mp e
      exact (rx.mono sF2 (p2 e'.1)).mono sF3 (p3 e'.2)
    | false => exact .rep (((rf e).mono sF2).mono sF3)
  split at post
  · exact sl_ok s3 rx3 rfl (post.done hl3)
  · exact sl_ok s3 rx3 rfl (post.done hl3)
  · exact post.elim
theorem c_rev {a : RF.X} {x : Expr} {k : Nat} {p1 p2 p3 pos : Pos} (ha : PE X x (tV X.K FA CA W w C true a)) : PE X (.Subscript x (.Slice none none (some (.UnaryOp .USub (.Constant (.int 1) k p1) p2)) p3) pos) (tE X.K FA CA W w C (.rev a)) := by
  refine PE.imp (pe_revL ha) fun σ H Q ⟨F, ts, env, hl, s, post⟩ => ⟨F, ts, env, hl, s, ?_⟩
  unfold evalE at post
  refine bindV post fun dx env1 vx H1 F1 _ hl1 s1 rx rf sF1 p1 post => ?_
  have post := post.rebase sF1 fun z => p1 z
  split at post
  · obtain ⟨b, us, rfl, h1, r1⟩ := rx.lst s1.1.sub
    exact ⟨b, us, rfl, .of h1, fun p hp => Hs.freshList (post.done hl1) s1 r1.reverse hp⟩
  · exact post.elim
/-! ### built-ins -/
def okVs (K : PySem.W.Frag) (FA : Fns) (w : W0) (pu : Bool) (σ : L2.St) (F H : Hp) (ts : List (Option V × O)) (Q : List V → Hp → Prop) : List D → Env → Prop := fun ds env' =>
  ∀ vs H' F', env'.length = σ.length → RepVs K FA F' H' vs ds → Hs K FA w F' H' (lv σ env' ++ ts) → Sub F F' → (pu = true → Sub H H') → Q vs H'
def tVs (K : PySem.W.Frag) (FA : Fns) (CA : Nat → Option Addr) (W : WX) (w : W0) (C : Cfg) (es : Xs) : TA := fun σ H Q => ∃ F ts env, env.length = σ.length ∧ Hs K FA w F H (lv σ env ++ ts) ∧ PG K FA CA W w σ F (okVs K FA w (pureXs es) σ F H ts Q) (evalVs C es env)
theorem c_vnil : PA X [] (tVs X.K FA CA W w C .nil) := PA.imp pa_nil fun σ H Q ⟨F, ts, env, hl, s, post⟩ => post [] H F hl .nil s (Sub.refl _) fun _ => Sub.refl _
theorem c_vcons {e : RF.X} {es : Xs} {u : Expr} {us : List Expr} (hi : isE Nm X.N e sc u = true) (he : PE X u (tV X.K FA CA W w C (pureXs es) e)) (hs : PA X us (tVs X.K FA CA W w C es)) : PA X (u :: us) (tVs X.K FA CA W w C (.cons e es)) := by
  refine PA.imp (pa_cons he hs (star_cons hi)) fun σ H Q ⟨F, ts, env, hl, s, post⟩ => ⟨F, ts, env, hl, s, ?_⟩
  unfold evalVs at post
  refine bindVG post fun d env1 v H1 F1 _ hl1 s1 rv rf sF1 p1 post => ⟨F1, ts, env1, hl1, s1, ?_⟩
  rw [PG.bind] at post
  refine post.rebase sF1 fun ds env2 q vs H2 F2 hl2 hv s2 sF2 p2 => ?_
  refine q (v :: vs) H2 F2 hl2 (.cons ?_ hv) s2 (sF1.trans sF2) fun z => (p1 (px2 z).1).trans (p2 (px2 z).2)
  cases e : pureXs es with
  | true => exact rv.mono sF2 (p2 e)
  | false => exact .rep ((rf e).mono sF2)
theorem call_repr {X : Cx} (hg : X.A.guards = some []) (hu : X.A.units + 65 < cLine) : CallR X (.builtin "repr") (rBlt X.K .repr) := by
  intro pins s σ H xs us Q I r h
  obtain ⟨p, d, rfl, h1, h2, h3, h4, h5, q⟩ := h
  match us, r with
  | [u], .cons ru .nil =>
    obtain rfl : u = Value.ref p := ru
    obtain ⟨bs, rd⟩ := Dp.reads I d (.ref p) (.ref p) h1 rfl
    exact repr_of_reads' rd h3 (fun e => by rw [h4] at e; cases e) hg (by omega) (fun _ _ e => e) (fun h' u tk k => ⟨.str _, H, I.kept (t' := tk) k, ⟨u, rfl⟩, q⟩) h5
theorem blt_free (c : Cok Nm FA CA C X W) {x : Str} (h : x ∈ bltNames) : X.mg x = none := c.blt x h
theorem boot_enum' : True := trivial
theorem c_blt {b : Blt} {e : RF.X} {es : Xs} {x : Str} {u : Expr} {us : List Expr} {p pos : Pos} (c : Cok Nm FA CA C X W) (r : ScR X sc) (hi : isEs Nm X.N (.cons e es) sc (u :: us) = true) (hb : bltIs b (u :: us).length x = true) (hg : glB sc x = true)
    (ha : PA X (u :: us) (tVs X.K FA CA W w C (.cons e es))) : PE X (.Call (.Name x p) (u :: us) [] pos) (tE X.K FA CA W w C (.blt b (.cons e es))) := by
  obtain ⟨g1, g2⟩ := glB_ok r hg
  have hi' : isE Nm X.N e sc u = true ∧ isEs Nm X.N es sc us = true := by simpa [isEs] using hi
  have fin : PE X (.Call (.Name x p) (u :: us) [] pos) (tCB (rBlt X.K b) (tVs X.K FA CA W w C (.cons e es))) := by
    have st := star_cons (env := X.env) (es := us) hi'.1
    have sa := star_any (env := X.env) (pos := pos) hi'.2
    have k : ∀ {y : Str}, (x == y) = true → x = y := fun h => by simpa using h
    cases b <;> (rcases us with _ | ⟨u2, _ | ⟨u3, us⟩⟩) <;> first | (simp [bltIs] at hb; done) | skip
    · obtain rfl := k (y := "len") (by simpa [bltIs] using hb)
      exact pe_callB call_len_seq g1 (c.blt _ (by decide)) PySem.boot_len ha (he := st) (hpl := sa)
    · obtain rfl := k (y := "abs") (by simpa [bltIs] using hb)
      exact pe_callB call_abs g1 (c.blt _ (by decide)) boot_abs ha (he := st) (hpl := sa)
    · obtain rfl := k (y := "sum") (by simpa [bltIs] using hb)
      exact pe_callB (cr_sum c.calm) g1 (c.blt _ (by decide)) boot_sum ha (he := st) (hpl := sa)
    · obtain rfl := k (y := "max") (by simpa [bltIs] using hb)
      exact pe_callB (cr_max c.calm) g1 (c.blt _ (by decide)) boot_max ha (he := st) (hpl := sa)
    · obtain rfl := k (y := "min") (by simpa [bltIs] using hb)
      exact pe_callB (cr_min c.calm) g1 (c.blt _ (by decide)) boot_min ha (he := st) (hpl := sa)
    · obtain rfl := k (y := "max") (by simpa [bltIs] using hb)
      exact pe_callB (call_max2 c.calm) g1 (c.blt _ (by decide)) boot_max ha (he := st) (hpl := sa)
    · obtain rfl := k (y := "min") (by simpa [bltIs] using hb)
      exact pe_callB (call_min2 c.calm) g1 (c.blt _ (by decide)) boot_min ha (he := st) (hpl := sa)
    · obtain rfl := k (y := "int") (by simpa [bltIs] using hb)
      exact pe_callTy call_int1 g1 (c.blt _ (by decide)) (by decide +kernel) ha (he := st) (hpl := sa)
    · obtain rfl := k (y := "list") (by simpa [bltIs] using hb)
      exact pe_callTy call_list_of g1 (c.blt _ (by decide)) (by decide +kernel) ha (he := st) (hpl := sa)
    · obtain rfl := k (y := "tuple") (by simpa [bltIs] using hb)
      exact pe_callTy call_tuple_of g1 (c.blt _ (by decide)) (by decide +kernel) ha (he := st) (hpl := sa)
    · obtain rfl := k (y := "all") (by simpa [bltIs] using hb)
      exact pe_callB (cr_all c.calm) g1 (c.blt _ (by decide)) boot_all ha (he := st) (hpl := sa)
    · obtain rfl := k (y := "repr") (by simpa [bltIs] using hb)
      exact pe_callB (call_repr c.gd c.un) g1 (c.blt _ (by decide)) (by decide +kernel) ha (he := st) (hpl := sa)
  refine PE.imp fin fun σ H Q ⟨F, ts, env, hl, s, post⟩ => ⟨F, ts, env, hl, s, ?_⟩
  unfold evalE at post
  rw [Post.pg, PG.bind] at post
  refine post.imp fun ds env1 _ q vs H1 F1 hl1 rv s1 sF1 p1 => ?_
  have post := (Post.pg.mpr q).rebase sF1 fun z => p1 z
  cases e1 : bltV b ds with
  | none => rw [e1] at post; exact post.elim
  | some o => rw [e1] at post; exact blt_ok s1 rv e1 (post.done hl1)
end
end RF
/-! RFj: calls. -/
namespace RF
open L2 PySem PySem.Spec PyProof.Rows
section
variable {Nm : Names} {FA : Fns} {CA : Nat → Option Addr} {C : Cfg} {X : Cx} {W : WX} {w : W0} {sc : Scope}
variable {σ : L2.St} {F F' F1 H H' H1 : Hp} {ts : List (Option V × O)} {Q Q1 : VK} {pu pu1 fl : Bool}
/-! ### arguments -/
inductive ArgsR (K : PySem.W.Frag) (FA : Fns) (F : Hp) (σ : L2.St) : List V → List Ar → Prop
  | nil : ArgsR K FA F σ [] []
  | val {v : V} {d : D} {vs : List V} {as : List Ar} : Rep K FA F v d → ArgsR K FA F σ vs as → ArgsR K FA F σ (v :: vs) (.val d :: as)
  | ref {v : V} {i : Nat} {vs : List V} {as : List Ar} : σ[i]? = some (some v) → ArgsR K FA F σ vs as → ArgsR K FA F σ (v :: vs) (.ref i :: as)
theorem ArgsR.mono {K : PySem.W.Frag} {vs : List V} {as : List Ar} (h : ArgsR K FA F σ vs as) (s : Sub F F') : ArgsR K FA F' σ vs as := by
  induction h with
  | nil => exact .nil
  | val r _ ih => exact .val (r.mono s) ih
  | ref r _ ih => exact .ref r ih
theorem ArgsR.length {K : PySem.W.Frag} {vs : List V} {as : List Ar} (h : ArgsR K FA F σ vs as) : vs.length = as.length := by
  induction h with
  | nil => rfl
  | val r _ ih => simp [ih]
  | ref r _ ih => simp [ih]
def okAr (K : PySem.W.Frag) (FA : Fns) (w : W0) (pu : Bool) (σ : L2.St) (F H : Hp) (ts : List (Option V × O)) (Q : List V → Hp → Prop) : List Ar → Env → Prop := fun as env' =>
  ∀ vs H' F', env'.length = σ.length → ArgsR K FA F' σ vs as → Hs K FA w F' H' (lv σ env' ++ ts) → Sub F F' → (pu = true → Sub H H') → Q vs H'
def tAr (K : PySem.W.Frag) (FA : Fns) (CA : Nat → Option Addr) (W : WX) (w : W0) (C : Cfg) (ms : List Bool) (es : Xs) : TA := fun σ H Q => ∃ F ts env, env.length = σ.length ∧ Hs K FA w F H (lv σ env ++ ts) ∧ PG K FA CA W w σ F (okAr K FA w (pureXs es) σ F H ts Q) (evalArgs C es ms env)
theorem c_anil {ms : List Bool} : PA X [] (tAr X.K FA CA W w C ms .nil) := PA.imp pa_nil fun σ H Q ⟨F, ts, env, hl, s, post⟩ => by
  unfold evalArgs at post
  cases ms with
  | nil => exact post [] H F hl .nil s (Sub.refl _) fun _ => Sub.refl _
  | cons m ms => exact post.elim
theorem c_acons {e : RF.X} {es : Xs} {u : Expr} {us : List Expr} {ms : List Bool} (r : ScR X sc) (hi : isE Nm X.N e sc u = true) (he : PE X u (tE X.K FA CA W w C e)) (hs : ∀ ms, PA X us (tAr X.K FA CA W w C ms es)) : PA X (u :: us) (tAr X.K FA CA W w C ms (.cons e es)) := by
  cases ms with
  | nil => exact PA.imp (pa_cons he (hs []) (star_cons hi)) fun σ H Q ⟨F, ts, env, hl, s, post⟩ => by unfold evalArgs at post; exact post.elim
  | cons m ms =>
    cases m with
    | false =>
      refine PA.imp (pa_cons he (hs ms) (star_cons hi)) fun σ H Q ⟨F, ts, env, hl, s, post⟩ => ⟨F, ts, env, hl, s, ?_⟩
      unfold evalArgs at post
      refine bindG post fun o env1 v H1 F1 _ hl1 s1 sF1 p1 post => ?_
      obtain ⟨F2, sF2, s2⟩ := s1.freeze
      refine ⟨F2, ts, env1, hl1, s2.tail, ?_⟩
      rw [PG.bind] at post
      refine post.rebase (sF1.trans sF2) fun as env2 q vs H3 F3 hl3 ra s3 sF3 p3 => ?_
      exact q (v :: vs) H3 F3 hl3 (.val (s2.rep.mono sF3) ra) s3 ((sF1.trans sF2).trans sF3) fun z => (p1 (px2 z).1).1.trans (p3 (px2 z).2)
    | true =>
      cases e with
      | v i =>
        cases u with
        | Name x pos =>
          refine PA.imp (pa_cons (pe_slot r (show visB X.N sc i x = true by simpa [isE] using hi)) (hs ms) (star_cons hi)) fun σ H Q ⟨F, ts, env, hl, s, post⟩ => ?_
          unfold evalArgs at post
          cases e1 : getE env i with
          | none => simp only [e1] at post; exact post.elim
          | some o =>
            simp only [e1] at post
            obtain ⟨v, e2, _⟩ := s.take hl e1
            refine ⟨v, e2, F, ts, env, hl, s, ?_⟩
            rw [PG.bind] at post
            refine post.rebase (Sub.refl _) fun as env2 q vs H3 F3 hl3 ra s3 sF3 p3 => ?_
            exact q (v :: vs) H3 F3 hl3 (.ref e2 ra) s3 sF3 fun z => p3 (px2 z).2
        | _ => simp [isE] at hi
      | _ => exact PA.imp (pa_cons he (hs ms) (star_cons hi)) fun σ H Q ⟨F, ts, env, hl, s, post⟩ => by unfold evalArgs at post; exact post.elim
/-! ### behind a call -/
theorem HR.call {K : PySem.W.Frag} {M : List Addr} (hr : HR w F H) (qM : ∀ a ∈ M, a ∈ w.M ∨ w.H0 a = none) (h : HR ⟨H, M, F, []⟩ F' H') (hM : ∀ a ∈ M, ∃ xs, H a = some (.lst xs)) : HR w F' H' where
  sub := h.sub
  sub0 := hr.sub0.trans h.sub0
  new := fun a o e => by
    rcases h.new a o e with z | z | z | z
    · exact hr.new a o z
    · exact .inr (.inl (hr.dom a z))
    · rcases qM a z with z | z
      · exact .inr (.inr (.inl z))
      · exact .inr (.inl z)
    · cases q : w.H0 a with
      | none => exact .inr (.inl rfl)
      | some o' =>
        by_cases m : a ∈ w.M
        · exact .inr (.inr (.inl m))
        · have e1 := hr.keep a o' q m
          have z1 : H a = some o := z.1
          rw [e1] at z1
          obtain rfl := Option.some.inj z1
          exact .inr (.inr (.inr ⟨rfl, z.2⟩))
  keep := fun a o e m => by
    refine h.keep a o (hr.keep a o e m) fun z => ?_
    rcases qM a z with z | z
    · exact m z
    · rw [z] at e; cases e
  dom := fun a e => hr.dom a (h.dom a e)
  tups := h.tups
  tabs := Tabs.stay hr.tabs fun b o e n => h.keep b o e fun m => by
    obtain ⟨xs, e'⟩ := hM b m
    rw [e] at e'
    obtain rfl := Option.some.inj e'
    exact n _ rfl
  ntb := h.ntb
theorem Hs.call {K : PySem.W.Frag} {M B : List Addr} {cs ps : List (Option V × O)} (hr : HR w F H) (rB : RepL K FA F H ps B) (ndB : B.Nodup) (qB : ∀ a ∈ B, F a = none ∧ (a ∈ w.M ∨ w.H0 a = none)) (dj : ∀ a ∈ M, a ∉ B)
    (qM : ∀ a ∈ M, a ∈ w.M ∨ w.H0 a = none) (hM : ∀ a ∈ M, ∃ xs, H a = some (.lst xs)) (sc : Hs K FA ⟨H, M, F, []⟩ F' H' cs) : Hs K FA w F' H' (cs ++ ps) := by
  obtain ⟨hc, A, rA, ndA, qA⟩ := sc
  have hB : ∀ a ∈ B, ∃ xs, H a = some (.lst xs) ∧ H' a = some (.lst xs) := fun a m => by
    obtain ⟨xs, e⟩ := rB.dom a m
    exact ⟨xs, e, hc.keep a _ e fun z => dj a z m⟩
  refine ⟨HR.call (K := K) hr qM hc hM, A ++ B, RepL.app rA (rB.frame hc.sub0 (fun a m => ?_) (fun a xs e => hc.sub _ _ (hc.sub0 _ _ (hr.tups _ _ e)))), List.nodup_append.mpr ⟨ndA, ndB, fun a ma b mb e => ?_⟩, fun a m => ?_⟩
  · obtain ⟨xs, e, e'⟩ := hB a m
    rw [e, e']
  · subst e
    obtain ⟨xs, e, e'⟩ := hB a mb
    rcases (qA a ma).2 with z | z
    · exact dj a z mb
    · have z' : H a = none := z
      rw [e] at z'; cases z'
  · rcases List.mem_append.mp m with m | m
    · refine ⟨(qA a m).1, ?_⟩
      rcases (qA a m).2 with z | z
      · exact qM a z
      · exact .inr (hr.dom a z)
    · refine ⟨?_, (qB a m).2⟩
      obtain ⟨xs, e, e'⟩ := hB a m
      cases q : F' a with
      | none => rfl
      | some o =>
        rcases hc.new a o q with z | z | z | z
        · have z' : F a = some o := z
          rw [(qB a m).1] at z'; cases z'
        · have z' : H a = none := z
          rw [e] at z'; cases z'
        · exact absurd m (dj a z)
        · have z' : H a = some o := z.1
          rw [e] at z'
          exact absurd (Option.some.inj z').symm (z.2 _)
where
  RepL.app {F' H' : Hp} : ∀ {ps qs : List (Option V × O)} {A B : List Addr}, RepL K FA F' H' ps A → RepL K FA F' H' qs B → RepL K FA F' H' (ps ++ qs) (A ++ B)
    | _, _, _, _, .nil, s => s
    | _, _, _, _, .cons h r, s => by
      rw [List.append_assoc]
      exact .cons h (RepL.app r s)
/-- no slot is handed in -/
theorem args0 {K : PySem.W.Frag} {vs : List V} {as : List Ar} (h : ArgsR K FA F σ vs as) : ∀ {env : Env} {os : List O}, Ar.slots as = [] → Ar.fetch env as = some os →
    RepOs K FA F H vs os [] ∧ modeOk (as.map Ar.isRef) os = true ∧ topA vs os = [] ∧ ∀ us, outsOf (as.map Ar.isRef) vs us = [] := by
  induction h with
  | nil =>
    intro env os _ e
    cases e
    exact ⟨.nil, rfl, rfl, fun us => rfl⟩
  | @val v d vs as r ra ih =>
    intro env os e1 e2
    have e2 : (Ar.fetch env as).map (O.z d :: ·) = some os := e2
    cases e3 : Ar.fetch env as with
    | none => rw [e3] at e2; cases e2
    | some us =>
      rw [e3] at e2
      cases e2
      obtain ⟨h1, h2, h3, h4⟩ := ih e1 e3
      refine ⟨RepOs.cons (A := []) (.z r) h1, h2, ?_, fun us => ?_⟩
      · show topA (v :: vs) (O.z d :: us) = []
        cases v <;> exact h3
      · show outsOf (false :: as.map Ar.isRef) (v :: vs) us = []
        cases us <;> exact h4 _
  | ref r ra ih =>
    intro env os e1 e2
    cases e1
/-- one slot is handed in -/
theorem args1 {K : PySem.W.Frag} {vs : List V} {as : List Ar} {i : Nat} {g : Addr} {us : List O} (h : ArgsR K FA F σ vs as) (hg : σ[i]? = some (some (.ref g))) : ∀ {env : Env} {os : List O}, Ar.slots as = [i] → Ar.fetch env as = some os →
    getE env i = some (.l us) → RepO K FA F H (.ref g) (.l us) [g] →
    RepOs K FA F H vs os [g] ∧ modeOk (as.map Ar.isRef) os = true ∧ topA vs os = [g] ∧ ∀ u, outsOf (as.map Ar.isRef) vs [u] = [(some (.ref g), u)] := by
  induction h with
  | nil => intro env os e; cases e
  | @val v d vs as r ra ih =>
    intro env os e1 e2 e4 rg
    have e2 : (Ar.fetch env as).map (O.z d :: ·) = some os := e2
    cases e3 : Ar.fetch env as with
    | none => rw [e3] at e2; cases e2
    | some us =>
      rw [e3] at e2
      cases e2
      obtain ⟨h1, h2, h3, h4⟩ := ih e1 e3 e4 rg
      refine ⟨RepOs.cons (A := []) (.z r) h1, h2, ?_, fun u => h4 u⟩
      show topA (v :: vs) (O.z d :: us) = [g]
      cases v <;> exact h3
  | @ref v j vs as r ra ih =>
    intro env os e1 e2 e4 rg
    have e1' : j :: Ar.slots as = [i] := e1
    obtain ⟨rfl, e5⟩ := List.cons.inj e1'
    rw [hg] at r
    cases r
    have e2 : (match getE env j with | some (.l os) => if os.all O.isZ then (Ar.fetch env as).map (.l os :: ·) else none | _ => none) = some os := e2
    rw [e4] at e2
    have e2 : (if us.all O.isZ = true then (Ar.fetch env as).map (O.l us :: ·) else none) = some os := e2
    split at e2
    · rename_i hz
      cases e3 : Ar.fetch env as with
      | none => rw [e3] at e2; cases e2
      | some us' =>
        rw [e3] at e2
        cases e2
        obtain ⟨h1, h2, h3, h4⟩ := args0 (H := H) ra e5 e3
        refine ⟨RepOs.cons (A := [g]) rg h1, ?_, ?_, fun u => ?_⟩
        · show (us.all O.isZ && modeOk (as.map Ar.isRef) us') = true
          rw [hz, h2]; rfl
        · show g :: topA vs us' = [g]
          rw [h3]
        · show (some (V.ref g), u) :: outsOf (as.map Ar.isRef) vs [] = _
          rw [h4]
    · cases e2
/-- a call's promise, from the evaluator's end -/
theorem call_ok {p : Bool} {f : Nat} {as : List Ar} {vs : List V} {env0 env1 : Env} {F0 H0 : Hp} (hl0 : env0.length = σ.length) (hl1 : env1.length = σ.length)
    (s0 : Hs X.K FA w F0 H0 (lv σ env0 ++ ts)) (s1 : Hs X.K FA w F H (lv σ env1 ++ ts)) (sF : Sub F0 F) (pH : p = true → Sub H0 H) (hpu : pu = true → p = true)
    (ra : ArgsR X.K FA F σ vs as) (post : Post X.K FA CA W w pu σ F0 H0 ts Q (doCall C p f env0 env1 as)) :
    spG X.K FA CA (C.sig f) (C.call f) vs H Q (WE W σ) := by
  unfold doCall at post
  split at post
  · rename_i hsig
    rw [← hsig]
    cases ef : Ar.fetch env1 as with
    | none => rw [ef] at post; exact post.elim
    | some os =>
      rw [ef] at post
      have hlen : vs.length = (as.map Ar.isRef).length := by rw [List.length_map]; exact ra.length
      cases es : Ar.slots as with
      | nil =>
        simp only [es] at post
        obtain ⟨h1, h2, h3, h4⟩ := args0 (H := H) ra es ef
        obtain ⟨hr, B, rB, ndB, qB⟩ := id s1
        refine ⟨F, os, hlen, h2, ⟨⟨hr.sub, Sub.refl _, fun a o e => .inl e, fun a o e _ => e, fun a e => e, hr.tups, fun _ m => (nomatch m), hr.ntb⟩, [], ?_, List.nodup_nil, fun a m => nomatch m⟩, ?_⟩
        · have := RepL.of_os (ps := []) h1 .nil
          simpa using this
        rw [h3]
        cases ec : C.call f os with
        | no => rw [ec] at post; exact post.elim
        | ex c ds =>
          rw [ec] at post
          exact fun H' F' od a e sf hc x => post H' F' od a e (sF.trans sf) (HR.call (K := X.K) (M := []) hr (fun a m => nomatch m) hc (fun a m => nomatch m)) x
        | rt o outs =>
          rw [ec] at post
          cases outs with
          | cons u us => exact post.elim
          | nil =>
            intro v H' F' sf scl
            rw [h4] at scl
            have s2 : Hs X.K FA w F' H' ((some v, o) :: (lv σ env1 ++ ts)) := Hs.call (M := []) (cs := [(some v, o)]) hr rB ndB qB (fun a m => nomatch m) (fun a m => nomatch m) (fun a m => nomatch m) scl
            have hH : Sub H H' := fun a ob e => scl.1.keep a ob e (fun m => nomatch m)
            have fr : Fresh X.K FA F' H H' v o := by
              obtain ⟨_, A, rA, _, qA⟩ := scl
              cases rA with
              | cons rA rn =>
                cases rn
                refine ⟨_, rA, fun a m => ?_⟩
                rcases (qA a (List.mem_append_left _ m)).2 with z | z
                · cases z
                · exact z
            have post : Post X.K FA CA W w pu σ F0 H0 ts Q (if p && o.clean then R.ok o env0 else R.ok o env1) := post
            split at post
            · rename_i hz
              have hz' := Bool.and_eq_true_iff.mp hz
              obtain ⟨F2, sF2, fr2, s3⟩ := Hs.restore s0 s2 ((pH hz'.1).trans hH) (sF.trans sf) (fr.weak (pH hz'.1)) hz'.2
              exact post v H' F2 hl0 s3 sF2 fun _ => ⟨(pH hz'.1).trans hH, fr2⟩
            · exact post v H' F' hl1 s2 (sF.trans sf) fun z => ⟨(pH (hpu z)).trans hH, fr.weak (pH (hpu z))⟩
      | cons i is =>
        cases is with
        | cons j js => simp only [es] at post; exact post.elim
        | nil =>
          simp only [es] at post
          split at post
          · exact post.elim
          · rename_i hp
            -- the slot
            have slot : ∃ us, getE env1 i = some (.l us) ∧ us.all O.isZ = true := slot_of es ef
            obtain ⟨us, eg, hz⟩ := slot
            obtain ⟨v, ev, s2⟩ := s1.take hl1 eg
            obtain ⟨g, gs, rfl, hg, _⟩ := s2.own
            obtain ⟨hr, A, rA, ndA, qA⟩ := id s2
            cases rA with
            | @cons _ _ _ A1 B h1 rB =>
              have hflat : RepO X.K FA F H (.ref g) (.l us) [g] ∧ A1 = [g] := by
                cases h1 with
                | l e r =>
                  obtain ⟨e', r'⟩ := r.allZ hz
                  subst e'
                  exact ⟨.l e r, rfl⟩
              obtain ⟨rg, rfl⟩ := hflat
              obtain ⟨g1, g2, g3, g4⟩ := args1 (H := H) ra ev es ef eg rg
              have nd2 := List.nodup_append.mp ndA
              have qg := qA g (List.mem_append_left _ (List.mem_singleton.mpr rfl))
              have dj : ∀ a ∈ [g], a ∉ B := fun a m mb => nd2.2.2 a m a mb rfl
              have hM : ∀ a ∈ [g], ∃ xs, H a = some (.lst xs) := fun a m => by rw [List.mem_singleton.mp m]; exact ⟨_, hg⟩
              have qM : ∀ a ∈ [g], a ∈ w.M ∨ w.H0 a = none := fun a m => by rw [List.mem_singleton.mp m]; exact qg.2
              refine ⟨F, os, hlen, g2, ⟨⟨hr.sub, Sub.refl _, fun a o e => .inl e, fun a o e _ => e, fun a e => e, hr.tups, fun _ m => (nomatch m), hr.ntb⟩, [g], ?_, by simp, fun a m => ?_⟩, ?_⟩
              · have := RepL.of_os (ps := []) g1 .nil
                simpa using this
              · rw [List.mem_singleton.mp m, g3]
                exact ⟨qg.1, .inl (List.mem_singleton.mpr rfl)⟩
              rw [g3]
              cases ec : C.call f os with
              | no => rw [ec] at post; exact post.elim
              | ex c ds =>
                rw [ec] at post
                exact fun H' F' od a e sf hc x => post H' F' od a e (sF.trans sf) (HR.call (K := X.K) hr qM hc hM) x
              | rt o outs =>
                rw [ec] at post
                match outs, post with
                | [.l us'], post =>
                  intro v H' F' sf scl
                  rw [g4] at scl
                  have s3 : Hs X.K FA w F' H' ([(some v, o), (some (.ref g), .l us')] ++ (lv σ (env1.set i none) ++ ts)) :=
                    Hs.call hr rB nd2.2.1 (fun a m => qA a (List.mem_append_right _ m)) dj qM hM scl
                  have s4 : Hs X.K FA w F' H' ((some (.ref g), .l us') :: (lv σ (env1.set i none) ++ ((some v, o) :: ts))) := s3.perm ((List.Perm.swap _ _ _).trans ((List.perm_middle.symm).cons _))
                  have s5 := s4.back hl1 ev
                  exact post v H' F' (by rw [List.length_set]; exact hl1) s5.ofTemp (sF.trans sf) fun z => absurd (hpu z) hp
                | [], post => exact post.elim
                | [.z _], post => exact post.elim
                | [.t _], post => exact post.elim
                | a :: b :: l, post => cases a <;> exact post.elim
  · exact post.elim
where
  slot_of : ∀ {as : List Ar} {env1 : Env} {os : List O} {i : Nat}, Ar.slots as = [i] → Ar.fetch env1 as = some os → ∃ us, getE env1 i = some (.l us) ∧ us.all O.isZ = true
    | [], _, _, _, e, _ => by cases e
    | .val d :: as, env1, os, i, e, f => by
      have f : (Ar.fetch env1 as).map (O.z d :: ·) = some os := f
      cases e3 : Ar.fetch env1 as with
      | none => rw [e3] at f; cases f
      | some us => exact slot_of (as := as) e e3
    | .ref j :: as, env1, os, i, e, f => by
      have e : j :: Ar.slots as = [i] := e
      obtain ⟨rfl, e⟩ := List.cons.inj e
      have f : (match getE env1 j with | some (.l os) => if os.all O.isZ then (Ar.fetch env1 as).map (.l os :: ·) else none | _ => none) = some os := f
      cases e4 : getE env1 j with
      | none => rw [e4] at f; cases f
      | some o =>
        rw [e4] at f
        cases o with
        | l us =>
          have f : (if us.all O.isZ = true then (Ar.fetch env1 as).map (O.l us :: ·) else none) = some os := f
          split at f
          · rename_i hz; exact ⟨us, rfl, hz⟩
          · cases f
        | z d => cases f
        | t us => cases f
end
end RF
/-! RFk: calls as expressions; isinstance; what loops walk. -/
namespace RF
open L2 PySem PySem.Spec PyProof.Rows
section
variable {Nm : Names} {FA : Fns} {CA : Nat → Option Addr} {C : Cfg} {X : Cx} {W : WX} {w : W0} {sc : Scope}
variable {σ : L2.St} {F F' F1 H H' H1 : Hp} {ts : List (Option V × O)} {Q Q1 : VK} {pu pu1 fl : Bool}
/-- a def called -/
theorem run_g {f : Addr} {k : Nat} {fd : FuncData} {ps : List Str} {sp : Sp} {pins : List (Addr × Obj)} {s : Shared} {us : List Value} {vs : List V} {E : XK} (g : X.A.guards = some []) (G : FnG X.prog X.w X.K X.mg X.base (L2.CX X.prog X.w) k f fd ps sp) (hr : Room k X.A)
    (hb : Binds X.K fd ps []) (hx : ∀ e s', L2.CX X.prog X.w X.stack H s E e s' → X.xe e s') (I : Inv X pins σ H s) (r : Vals vs us) (z : sp vs H Q E) : wpAny (model X.prog X.w) X.A (call (.ref f) us) (EP X pins σ Q) X.xe s := by
  have n : (us ++ []).length = ps.length := by rw [List.append_nil, ← r.length]; exact G.len _ _ _ _ z
  have b := hb s us I.kIn n
  rw [List.append_nil] at b
  refine wpAny_call (codeAny_mono (G.run _ _ _ _ ⟨us, []⟩ us vs Q E hr g I.env0 b r z) fun res s' q => ?_)
  match res, q with
  | .error e, q => exact hx e s' q
  | .ok (.ret u), q => exact I.after q
  | .ok .next, q => exact False.elim q
  | .ok .brk, q => exact False.elim q
  | .ok .cont, q => exact False.elim q
theorem run_sp (c : Cok Nm FA CA C X W) {f : Nat} {a : Addr} (hf : FA f = some a) {pins : List (Addr × Obj)} {s : Shared} {us : List Value} {vs : List V} (I : Inv X pins σ H s) (r : Vals vs us) (h : spG X.K FA CA (C.sig f) (C.call f) vs H Q (WE W σ)) :
    wpAny (model X.prog X.w) X.A (call (.ref a) us) (EP X pins σ Q) X.xe s := by
  obtain ⟨x, k, fd, h1, h2, h3, h4, h5, h6, _⟩ := c.fns f a hf
  exact run_g c.gd h6 h5 h4 (fun e s' q => passAt c.takes σ pins H s e s' I q) I r h
theorem c_call {q : Bool} {f : Nat} {es : Xs} {x : Str} {us : List Expr} {p pos : Pos} (c : Cok Nm FA CA C X W) (r : ScR X sc) (hf : Nm.fn f = some x) (hg : glB sc x = true) (hi : isEs Nm X.N es sc us = true) (hq : (!q || pureXs es) = true)
    (ha : ∀ ms, PA X us (tAr X.K FA CA W w C ms es)) : PE X (.Call (.Name x p) us [] pos) (tE X.K FA CA W w C (.call q f es)) := by
  refine ⟨fun pins s σ H Q I h => ?_⟩
  obtain ⟨F, ts, env, hl, s0, post⟩ := h
  obtain ⟨a, ea⟩ := c.has f x hf
  obtain ⟨x', k, fd, h1, h2, h3, h4, h5, h6, _⟩ := c.fns f a ea
  obtain rfl : x' = x := Option.some.inj (h1.symm.trans hf)
  obtain ⟨g1, g2⟩ := glB_ok r hg
  unfold evalE at post
  rw [Post.pg, PG.bind] at post
  have go : ∀ (as : List Ar) (env1 : Env), evalArgs C es (C.sig f) env = .ok as env1 → PG X.K FA CA W w σ F (okE X.K FA w (pureX (.call q f es)) σ F H ts Q) (doCall C q f env env1 as) →
      okAr X.K FA w (pureXs es) σ F H ts (fun vs H1 => spG X.K FA CA (C.sig f) (C.call f) vs H1 Q (WE W σ)) as env1 := fun as env1 _ z vs H1 F1 hl1 ra s1 sF1 p1 =>
    call_ok hl hl1 s0 s1 sF1 (fun e => p1 (by rw [e] at hq; exact hq)) (fun e => (Bool.and_eq_true_iff.mp (show (q && pureXs es) = true from e)).1) ra (Post.pg.mpr z)
  refine wpAny_Call_Name_kw (ld_glob I g1 h2 ?_ g2)
  cases us with
  | nil =>
    cases es with
    | nil =>
      have z := post.imp go
      unfold evalArgs at z
      split at z
      · have z := z [] H F hl .nil s0 (Sub.refl _) fun _ => Sub.refl _
        exact PySem.W.callWith_K0 I.kIn h3 (run_sp (us := []) c ea I .nil z)
      · exact z.elim
    | cons e es => simp [isEs] at hi
  | cons u us =>
    cases es with
    | nil => simp [isEs] at hi
    | cons e es =>
      have hi' : isE Nm X.N e sc u = true ∧ isEs Nm X.N es sc us = true := by simpa [isEs] using hi
      exact PySem.W.callWith_K (h₀ := X.base) I.ok.mod.kin h3 (thn ((ha (C.sig f)).run pos pins s σ H _ I ⟨F, ts, env, hl, s0, post.imp go⟩) fun us s1 ⟨vs, H1, I1, r, q⟩ => ⟨I1.kIn, run_sp c ea I1 r q⟩) (star_cons hi'.1) (star_any hi'.2)
theorem c_callv {i : Nat} {es : Xs} {x : Str} {us : List Expr} {p pos : Pos} (c : Cok Nm FA CA C X W) (r : ScR X sc) (hv : visB X.N sc i x = true) (hi : isEs Nm X.N es sc us = true) (hq : pureXs es = true)
    (ha : ∀ ms, PA X us (tAr X.K FA CA W w C ms es)) : PE X (.Call (.Name x p) us [] pos) (tE X.K FA CA W w C (.callv i es)) := by
  refine ⟨fun pins s σ H Q I h => ?_⟩
  obtain ⟨F, ts, env, hl, s0, post⟩ := h
  unfold evalE at post
  cases eg : getE env i with
  | none => rw [eg] at post; exact post.elim
  | some o =>
    rw [eg] at post
    match o, eg, post with
    | .z (.fn f), eg, post =>
      obtain ⟨v, e1, rp⟩ := s0.slotRep hl eg
      cases rp with
      | @fn _ a ea =>
        obtain ⟨x', k, fd, h1, h2, h3, h4, h5, h6, _⟩ := c.fns f a ea
        rw [Post.pg, PG.bind] at post
        have go : ∀ (as : List Ar) (env1 : Env), evalArgs C es (C.sig f) env = .ok as env1 → PG X.K FA CA W w σ F (okE X.K FA w (pureX (.callv i es)) σ F H ts Q) (doCall C true f env env1 as) →
            okAr X.K FA w (pureXs es) σ F H ts (fun vs H1 => spG X.K FA CA (C.sig f) (C.call f) vs H1 Q (WE W σ)) as env1 := fun as env1 _ z vs H1 F1 hl1 ra s1 sF1 p1 =>
          call_ok hl hl1 s0 s1 sF1 (fun e => p1 hq) (fun e => rfl) ra (Post.pg.mpr z)
        refine wpAny_Call_Name_kw (thn ((pe_slot (pos := p) r hv).run pins s σ H (fun v H1 => v = .ref a ∧ H1 = H) I ⟨.ref a, e1, rfl, rfl⟩) fun u s1 ⟨v, H1, I1, r1, q1⟩ => ?_)
        obtain ⟨rfl, rfl⟩ := q1
        cases r1
        cases us with
        | nil =>
          cases es with
          | nil =>
            have z := post.imp go
            unfold evalArgs at z
            split at z
            · have z := z [] _ F hl .nil s0 (Sub.refl _) fun _ => Sub.refl _
              exact PySem.W.callWith_K0 I1.kIn h3 (run_sp (us := []) c ea I1 .nil z)
            · exact z.elim
          | cons e es => simp [isEs] at hi
        | cons u us =>
          cases es with
          | nil => simp [isEs] at hi
          | cons e es =>
            have hi' : isE Nm X.N e sc u = true ∧ isEs Nm X.N es sc us = true := by simpa [isEs] using hi
            exact PySem.W.callWith_K (h₀ := X.base) I1.ok.mod.kin h3 (thn ((ha (C.sig f)).run pos pins s1 σ _ _ I1 ⟨F, ts, env, hl, s0, post.imp go⟩) fun us s2 ⟨vs, H2, I2, r, q⟩ => ⟨I2.kIn, run_sp c ea I2 r q⟩) (star_cons hi'.1) (star_any hi'.2)
    | .z (.clo f ds), eg, post =>
      obtain ⟨v, e1, rp⟩ := s0.slotRep hl eg
      cases rp with
      | @clo _ a cc L pm ctv m1 m2 m3 =>
        obtain ⟨n, ps, hr, hb, hF⟩ := c.lam f L m1
        have post : Post X.K FA CA W w (pureX (.callv i es)) σ F H ts Q ((evalArgs C es (C.sig f) env).bind fun as env1 => doCall C true f env env1 as) := post
        rw [Post.pg, PG.bind] at post
        have go : ∀ (as : List Ar) (env1 : Env), evalArgs C es (C.sig f) env = .ok as env1 → PG X.K FA CA W w σ F (okE X.K FA w (pureX (.callv i es)) σ F H ts Q) (doCall C true f env env1 as) →
            okAr X.K FA w (pureXs es) σ F H ts (fun vs H1 => spK X.K FA CA (C.sig f) (C.call f) a cc L pm ctv vs H1 Q (WE W σ)) as env1 := fun as env1 _ z vs H1 F1 hl1 ra s1 sF1 p1 =>
          ⟨s1.1.sub _ _ (sF1 _ _ m2), s1.1.sub _ _ (sF1 _ _ m3), call_ok hl hl1 s0 s1 sF1 (fun e => p1 hq) (fun e => rfl) ra (Post.pg.mpr z)⟩
        have run : ∀ {s1 : Shared} {H1 : Hp} {us : List Value} {vs : List V}, Inv X pins σ H1 s1 → Vals vs us → spK X.K FA CA (C.sig f) (C.call f) a cc L pm ctv vs H1 Q (WE W σ) → wpAny (model X.prog X.w) X.A (call (.ref a) us) (EP X pins σ Q) X.xe s1 := fun I1 r z =>
          run_g c.gd (hF a cc pm ctv) hr (Binds.all (hb cc pm ctv)) (fun e s' q => passAt c.takes σ pins _ _ e s' I1 q) I1 r z
        have at_ : ∀ {s1 : Shared} {H1 : Hp}, Inv X pins σ H1 s1 → H1 a = some (LamO a cc L pm ctv) → PySem.W.FnAt a s1.heap := fun I1 e => by
          obtain ⟨⟨od, sl, ho⟩, _, _⟩ := I1.hok a _ e
          exact ⟨_, od, _, sl, ho⟩
        refine wpAny_Call_Name_kw (thn ((pe_slot (pos := p) r hv).run pins s σ H (fun v H1 => v = .ref a ∧ H1 = H) I ⟨.ref a, e1, rfl, rfl⟩) fun u s1 ⟨v, H1, I1, r1, q1⟩ => ?_)
        obtain ⟨rfl, rfl⟩ := q1
        cases r1
        cases us with
        | nil =>
          cases es with
          | nil =>
            have z := post.imp go
            unfold evalArgs at z
            split at z
            · have z := z [] _ F hl .nil s0 (Sub.refl _) fun _ => Sub.refl _
              exact PySem.W.callWith_F0 (at_ I1 z.1) (run (us := []) I1 .nil z)
            · exact z.elim
          | cons e es => simp [isEs] at hi
        | cons u us =>
          cases es with
          | nil => simp [isEs] at hi
          | cons e es =>
            have hi' : isE Nm X.N e sc u = true ∧ isEs Nm X.N es sc us = true := by simpa [isEs] using hi
            exact PySem.W.callWith_F (first := []) (at_ I1 (s0.1.sub _ _ m2)) (thn ((ha (C.sig f)).run pos pins s1 σ _ _ I1 ⟨F, ts, env, hl, s0, post.imp go⟩) fun us s2 ⟨vs, H2, I2, r, q⟩ => ⟨at_ I2 q.1, run I2 r q⟩) (star_cons hi'.1) (star_any hi'.2)
    | .z .non, eg, post => exact post.elim
    | .z (.bl _), eg, post => exact post.elim
    | .z (.int _), eg, post => exact post.elim
    | .z (.str _), eg, post => exact post.elim
    | .z (.lst _), eg, post => exact post.elim
    | .z (.tup _), eg, post => exact post.elim
    | .z (.scr _), eg, post => exact post.elim
    | .z (.obj _ _), eg, post => exact post.elim
    | .z (.exc _ _), eg, post => exact post.elim
    | .l _, eg, post => exact post.elim
    | .t _, eg, post => exact post.elim
theorem perm_abc {α : Type} {A B D : List α} : (A ++ (B ++ D)).Perm (B ++ (A ++ D)) := by
  rw [← List.append_assoc, ← List.append_assoc]
  exact List.perm_append_comm.append_right D
theorem PG.rebaseE {α : Type} {r : R α} {P P' : α → Env → Prop} (h : PG X.K FA CA W w σ F P r) (sF : Sub F F1) (i : ∀ a env, r = .ok a env → P a env → P' a env) : PG X.K FA CA W w σ F1 P' r := by
  cases r with
  | ok a env => exact i a env rfl h
  | ex c ds => exact fun H' F' od a e sf hr x => h H' F' od a e (sF.trans sf) hr x
  | no => exact h
/-! ### keywords -/
def tEs' (K : PySem.W.Frag) (FA : Fns) (CA : Nat → Option Addr) (W : WX) (w : W0) (C : Cfg) (es : Xs) : TA := tEs K FA CA W w C es
theorem kw_all {N : List Str} {env : PySem.Env} {pos : Pos} : ∀ {ks : Xs} {kws : List Keyword}, isKs Nm N ks sc kws = true → (backToKw pos (keywordEach kws env)).all (·.1.isSome) = true ∧ (backToKw pos (keywordEach kws env)).any (·.1.isNone) = false ∧ (backToKw pos (keywordEach kws env)).filterMap (·.1) = kwNames kws ∧ xsLen ks = (kwNames kws).length
  | .nil, [], _ => ⟨rfl, rfl, rfl, rfl⟩
  | .nil, _ :: _, h => by simp [isKs] at h
  | .cons _ _, [], h => by simp [isKs] at h
  | .cons e es, ⟨.none, u, kp⟩ :: us, h => by simp [isKs] at h
  | .cons e es, ⟨.some n, u, kp⟩ :: us, h => by
    have h' : isE Nm N e sc u = true ∧ isKs Nm N es sc us = true := by simpa [isKs] using h
    obtain ⟨h1, h2, h3, h4⟩ := kw_all (env := env) (pos := pos) h'.2
    refine ⟨?_, ?_, ?_, ?_⟩
    · show (true && (backToKw pos (keywordEach us env)).all (·.1.isSome)) = true
      rw [h1]; rfl
    · show (false || (backToKw pos (keywordEach us env)).any (·.1.isNone)) = false
      rw [h2]; rfl
    · show n :: (backToKw pos (keywordEach us env)).filterMap (·.1) = n :: kwNames us
      rw [h3]
    · show xsLen es + 1 = (kwNames us).length + 1
      rw [h4]
theorem PK.imp {e : List Keyword} {t t' : TA} (h : PK X e t) (i : ∀ σ H Q, t' σ H Q → t σ H Q) : PK X e t' := ⟨fun pos pins s σ H Q I q => h.run pos pins s σ H Q I (i _ _ _ q)⟩
theorem c_knil : PK X [] (tEs X.K FA CA W w C .nil) := PK.imp pk_nil fun σ H Q ⟨F, ts, env, hl, s, post⟩ => post [] H F hl rfl s (Sub.refl _) fun _ => ⟨Sub.refl _, [], .nil, fun _ m => nomatch m⟩
theorem c_kcons {e : RF.X} {es : Xs} {u : Expr} {us : List Keyword} {n : Option Str} {kp : Pos} (he : PE X u (tE X.K FA CA W w C e)) (hs : PK X us (tEs X.K FA CA W w C es)) : PK X (⟨n, u, kp⟩ :: us) (tEs X.K FA CA W w C (.cons e es)) := by
  refine PK.imp (pk_cons he hs) fun σ H Q ⟨F, ts, env, hl, s, post⟩ => ⟨F, ts, env, hl, s, ?_⟩
  unfold evalEs at post
  refine bindG post fun o env1 v H1 F1 _ hl1 s1 sF1 p1 post => ⟨F1, (some v, o) :: ts, env1, hl1, s1.toTemp, ?_⟩
  rw [PG.bind] at post
  refine post.rebase sF1 fun os env2 q vs H2 F2 hl2 hv s2 sF2 p2 => ?_
  have s3 : Hs X.K FA w F2 H2 ((some v, o) :: ((vs.map some).zip os ++ (lv σ env2 ++ ts))) := by
    rw [← List.append_assoc] at s2
    have := s2.ofTemp
    rwa [List.append_assoc] at this
  refine q (v :: vs) H2 F2 hl2 (by simp [hv]) s3 (sF1.trans sF2) fun z => ?_
  have z' := Bool.and_eq_true_iff.mp (show (pureX e && pureXs es) = true from z)
  obtain ⟨a1, a2⟩ := p1 z'.1
  obtain ⟨b1, B, b2, b3⟩ := p2 z'.2
  obtain ⟨A, a3, a4⟩ := a2.mono sF2 b1
  refine ⟨a1.trans b1, A ++ B, .cons a3 b2, fun a m => ?_⟩
  rcases List.mem_append.mp m with m | m
  · exact a4 a m
  · cases e : H a with
    | none => rfl
    | some x => rw [← a1 _ _ e, b3 a m]
/-- several values stand for good from now on -/
theorem Hs.freezeAll {K : PySem.W.Frag} : ∀ {os : List O} {vs : List V} {F : Hp} {ps : List (Option V × O)}, vs.length = os.length → Hs K FA w F H ((vs.map some).zip os ++ ps) → ∃ F', Sub F F' ∧ Hs K FA w F' H ps ∧ Reps K FA F' vs (O.toDs os)
  | [], [], F, ps, _, s => ⟨F, Sub.refl _, s, by simp only [O.toDs]; exact .nil⟩
  | o :: os, v :: vs, F, ps, e, s => by
    obtain ⟨F1, sF1, s1⟩ := Hs.freeze s
    have r1 := s1.rep
    obtain ⟨F2, sF2, s2, r2⟩ := Hs.freezeAll (by simpa using e) s1.tail
    exact ⟨F2, sF1.trans sF2, s2, by simp only [O.toDs]; exact .cons (r1.mono sF2) r2⟩
  | [], _ :: _, _, _, e, _ => by simp at e
  | _ :: _, [], _, _, e, _ => by simp at e
theorem args_perm {K : PySem.W.Frag} {us : List O} {vs : List V} (r : Reps K FA F vs (O.toDs us)) : ∀ perm : List Nat, ArgsR K FA F σ (perm.map fun j => vs.getD j .non) (perm.map fun j => .val (us.getD j (.z .non)).toD)
  | [] => .nil
  | j :: js => by
    refine .val ?_ (args_perm r js)
    show Rep K FA F (vs.getD j .non) (us.getD j (.z .non)).toD
    rw [O.toDs_map] at r
    cases e : us[j]? with
    | none =>
      have e1 : vs[j]? = none := by
        have hl := r.length
        rw [List.length_map] at hl
        rw [List.getElem?_eq_none_iff] at e ⊢
        omega
      rw [List.getD_eq_getElem?_getD, List.getD_eq_getElem?_getD, e, e1]
      exact .non
    | some o =>
      obtain ⟨v, e1, rv⟩ := r.get (i := j) (d := o.toD) (by rw [List.getElem?_map, e]; rfl)
      rw [List.getD_eq_getElem?_getD, List.getD_eq_getElem?_getD, e, e1]
      exact rv
theorem getD_vals : ∀ {vs : List V} {us : List Value} (j : Nat), Vals vs us → RelV (vs.getD j .non) (us.getD j .none)
  | [], [], j, .nil => by cases j <;> rfl
  | _ :: _, _ :: _, 0, .cons r _ => r
  | _ :: _, _ :: _, j + 1, .cons _ t => getD_vals j t
theorem vals_perm {vs : List V} {us : List Value} (h : Vals vs us) : ∀ perm : List Nat, Vals (perm.map fun j => vs.getD j .non) (perm.map fun j => us.getD j .none)
  | [] => .nil
  | j :: js => .cons (getD_vals j h) (vals_perm h js)
theorem c_callk {f : Nat} {es ks : Xs} {perm : List Nat} {x : Str} {us : List Expr} {kws : List Keyword} {p pos : Pos} (c : Cok Nm FA CA C X W) (r : ScR X sc) (hf : Nm.fn f = some x) (hg : glB sc x = true) (hi : isEs Nm X.N es sc us = true) (hk : isKs Nm X.N ks sc kws = true)
    (hq : pureXs es = true) (hq2 : pureXs ks = true) (hkw : (f, us.length, kwNames kws, perm) ∈ Nm.kw) (hz : xsLen es = us.length)
    (ha : PA X us (tEs X.K FA CA W w C es)) (hb : PK X kws (tEs X.K FA CA W w C ks)) : PE X (.Call (.Name x p) us kws pos) (tE X.K FA CA W w C (.callk f es ks perm)) := by
  refine ⟨fun pins s σ H Q I h => ?_⟩
  obtain ⟨F, ts, env, hl, s0, post⟩ := h
  obtain ⟨a, ea⟩ := c.has f x hf
  obtain ⟨x', k, fd, h1, h2, h3, h4, h5, h6, h7⟩ := c.fns f a ea
  obtain rfl : x' = x := Option.some.inj (h1.symm.trans hf)
  obtain ⟨g1, g2⟩ := glB_ok r hg
  obtain ⟨k1, k2, k3, k4⟩ := kw_all (Nm := Nm) (sc := sc) (env := X.env) (pos := pos) hk
  unfold evalE at post
  rw [Post.pg, PG.bind] at post
  -- the end
  have fin : ∀ (os us' : List O) (env1 env2 : Env) (vs zs : List V) (H1 F1 : Hp), os.length = us.length → us'.length = (kwNames kws).length → PG X.K FA CA W w σ F (okE X.K FA w (pureX (.callk f es ks perm)) σ F H ts Q) (doCall C true f env env2 (permA os us' perm)) →
      env2.length = σ.length → vs.length = os.length → zs.length = us'.length → Hs X.K FA w F1 H1 ((zs.map some).zip us' ++ ((vs.map some).zip os ++ (lv σ env2 ++ ts))) → Sub F F1 → Sub H H1 →
      spG X.K FA CA (C.sig f) (C.call f) (perm.map fun j => (vs ++ zs).getD j .non) H1 Q (WE W σ) := fun os us' env1 env2 vs zs H1 F1 e1 e2 z hl2 hv hzl s1 sF sH => by
    have s2 : Hs X.K FA w F1 H1 (((vs ++ zs).map some).zip (os ++ us') ++ (lv σ env2 ++ ts)) := by
      rw [List.map_append, List.zip_append (by simp [hv]), List.append_assoc]
      exact s1.perm perm_abc
    obtain ⟨F2, sF2, s3, r3⟩ := Hs.freezeAll (by simp [hv, hzl]) s2
    exact call_ok hl hl2 s0 s3 (sF.trans sF2) (fun _ => sH) (fun _ => rfl) (args_perm r3 perm) (Post.pg.mpr z)
  have run : ∀ {s1 : Shared} {H1 : Hp} {us1 ws1 : List Value} {vs zs : List V}, Inv X pins σ H1 s1 → Vals vs us1 → Vals zs ws1 → us1.length = us.length → ws1.length = (kwNames kws).length → spG X.K FA CA (C.sig f) (C.call f) (perm.map fun j => (vs ++ zs).getD j .non) H1 Q (WE W σ) →
      wpAny (model X.prog X.w) X.A (call (.ref a) us1 ((kwNames kws).zip ws1)) (EP X pins σ Q) X.xe s1 := fun {s1 H1 us1 ws1 vs zs} I1 r1 r2 e1 e2 z => by
    have rr := vals_perm (r1.append r2) perm
    refine wpAny_call (codeAny_mono (h6.run X.A X.stack s1 H1 ⟨us1, (kwNames kws).zip ws1⟩ (permL .none us1 ws1 perm) (perm.map fun j => (vs ++ zs).getD j .non) Q (WE W σ) h5 c.gd I1.env0 (h7 _ _ _ hkw s1 us1 ws1 I1.kIn e1 e2) rr z) fun r s' hq => ?_)
    cases r with
    | error e => exact passAt c.takes σ pins H1 s1 e s' I1 hq
    | ok fl =>
      cases fl with
      | ret u => exact I1.after hq
      | next => exact False.elim hq
      | brk => exact False.elim hq
      | cont => exact False.elim hq
  refine wpAny_Call_Name_kw (ld_glob I g1 h2 ?_ g2)
  cases us with
  | nil =>
    cases es with
    | cons e es => simp [isEs] at hi
    | nil =>
      have post : PG X.K FA CA W w σ F _ ((evalEs C ks env).bind fun us env2 => doCall C true f env env2 (permA [] us perm)) := post
      rw [PG.bind] at post
      refine PySem.W.callWith_KW0 (h₀ := X.base) I.ok.mod.kin h3 k1 (thn (hb.run pos pins s σ H (fun zs H1 => spG X.K FA CA (C.sig f) (C.call f) (perm.map fun j => ([] ++ zs).getD j .non) H1 Q (WE W σ) ∧ zs.length = (kwNames kws).length) I ⟨F, ts, env, hl, s0, post.imp fun us' env2 e z zs H1 F1 hl2 hzl s1 sF p1 =>
        have e2 : us'.length = (kwNames kws).length := (evalEs_len e).trans k4
        ⟨fin [] us' env env2 [] zs H1 F1 rfl e2 z hl2 rfl hzl s1 sF (p1 hq2).1, by rw [hzl, e2]⟩⟩) fun ws s2 ⟨zs, H2, I2, rz, q2, ql⟩ => ⟨I2.kIn, ?_⟩) (by rw [k2]; rfl)
      rw [k3]
      exact run (us1 := []) I2 .nil rz rfl (by rw [← rz.length]; exact ql) q2
  | cons u us =>
    cases es with
    | nil => simp [isEs] at hi
    | cons e es =>
      have hi' : isE Nm X.N e sc u = true ∧ isEs Nm X.N es sc us = true := by simpa [isEs] using hi
      refine PySem.W.callWith_KW (h₀ := X.base) I.ok.mod.kin h3 k1 (thn (ha.run pos pins s σ H (fun vs H1 => vs.length = (u :: us).length ∧ tEs X.K FA CA W w C ks σ H1 (fun zs H2 => spG X.K FA CA (C.sig f) (C.call f) (perm.map fun j => (vs ++ zs).getD j .non) H2 Q (WE W σ) ∧ zs.length = (kwNames kws).length)) I ⟨F, ts, env, hl, s0, post.imp fun os env1 e z vs H1 F1 hl1 hv s1 sF1 p1 => ?_⟩) fun us1 s1 ⟨vs, H1, I1, r1, ql, q⟩ => ?_) ?_ (star_cons hi'.1)
      · have e1 : os.length = (u :: us).length := (evalEs_len e).trans hz
        refine ⟨by rw [hv, e1], F1, (vs.map some).zip os ++ ts, env1, hl1, ?_, ?_⟩
        · exact s1.perm perm_abc
        · rw [PG.bind] at z
          refine z.rebaseE sF1 fun us' env2 e z => ?_
          refine fun zs H2 F2 hl2 hzl s2 sF2 p2 => ?_
          have e2 : us'.length = (kwNames kws).length := (evalEs_len e).trans k4
          have s3 : Hs X.K FA w F2 H2 ((zs.map some).zip us' ++ ((vs.map some).zip os ++ (lv σ env2 ++ ts))) := s2.perm (perm_abc.append_left _)
          exact ⟨fin os us' env1 env2 vs zs H2 F2 e1 e2 z hl2 hv hzl s3 (sF1.trans sF2) ((p1 hq).1.trans (p2 hq2).1), by rw [hzl, e2]⟩
      · refine thn (hb.run pos pins s1 σ H1 _ I1 q) fun ws s2 ⟨zs, H2, I2, rz, q2, ql2⟩ => ⟨I2.kIn, ?_⟩
        rw [k3]
        exact run I2 r1 rz (by show us1.length = _; rw [← r1.length]; exact ql) (by rw [← rz.length]; exact ql2) q2
      · rw [k2, Bool.or_false]
        rw [star_cons hi'.1]
        show (false || (backTo pos (starEach us X.env)).any (·.1)) = false
        rw [star_any hi'.2]; rfl
end
end RF
/-! RFl: isinstance; targets; what loops walk. -/
namespace RF
open L2 PySem PySem.Spec PyProof.Rows
section
variable {Nm : Names} {FA : Fns} {CA : Nat → Option Addr} {C : Cfg} {X : Cx} {W : WX} {w : W0} {sc : Scope}
variable {σ : L2.St} {F F' F1 H H' H1 : Hp} {ts : List (Option V × O)} {Q Q1 : VK} {pu pu1 fl : Bool}
/-! ### isinstance -/
theorem pe_ty (c : Cok Nm FA CA C X W) (r : ScR X sc) {y : Str} {n : String} {pos : Pos} (hy : y ∈ bltNames) (hg : glB sc y = true) (hv : bootBuiltins y = some (.type n)) (hn : y ≠ "__name__") : PE X (.Name y pos) (tC (.ty n)) := by
  obtain ⟨g1, g2⟩ := glB_ok r hg
  exact pe_bltn g1 (c.blt _ hy) hv rfl hn g2
theorem tyIs_lt {cl : Expr} (ht : tyIs .lt cl sc = true) : ∃ y1 p1 y2 p2 k p, cl = .Tuple [.Name y1 p1, .Name y2 p2] k p ∧ (y1 == "list" && glB sc y1 && y2 == "tuple" && glB sc y2) = true := by
  cases cl with
  | Tuple es k p =>
    rcases es with _ | ⟨e1, _ | ⟨e2, _ | ⟨e3, es⟩⟩⟩
    · simp [tyIs] at ht
    · cases e1 <;> simp [tyIs] at ht
    · cases e1 <;> first | (simp [tyIs] at ht; done) | skip
      cases e2 <;> first | (simp [tyIs] at ht; done) | skip
      exact ⟨_, _, _, _, _, _, rfl, ht⟩
    · cases e1 <;> simp [tyIs] at ht
  | _ => simp [tyIs] at ht
theorem c_isi {t : Ty} {a : RF.X} {x : Str} {u cl : Expr} {p pos : Pos} (c : Cok Nm FA CA C X W) (r : ScR X sc) (hx : (x == "isinstance") = true) (hg : glB sc x = true) (hi : isE Nm X.N a sc u = true) (ht : tyIs t cl sc = true)
    (ha : PE X u (tV X.K FA CA W w C true a)) : PE X (.Call (.Name x p) [u, cl] [] pos) (tE X.K FA CA W w C (.isi t a)) := by
  obtain rfl : x = "isinstance" := by simpa using hx
  obtain ⟨g1, g2⟩ := glB_ok r hg
  have k : ∀ {x y : Str}, (x == y) = true → x = y := fun h => by simpa using h
  have one : ∀ {n : String} {y : Str} {py : Pos}, cl = .Name y py → t ≠ .lt → tyStr t = n → PE X (.Name y py) (tC (.ty n)) → PE X (.Call (.Name "isinstance" p) [u, cl] [] pos) (tE X.K FA CA W w C (.isi t a)) := fun {n y py} e1 e2 e3 h => by
    subst e1
    refine PE.imp (pe_callB call_isi g1 (c.blt _ (by decide)) boot_isinstance (pa_cons ha (pa_cons h pa_nil) (star_cons hi)) (he := star_cons hi)) fun σ H Q ⟨F, ts, env, hl, s, post⟩ => ⟨F, ts, env, hl, s, ?_⟩
    unfold evalE at post
    refine bindV post fun d env1 v H1 F1 _ hl1 s1 rv rf sF1 p1 post => ?_
    have post := post.rebase sF1 fun z => p1 z
    cases e : isiV t d with
    | none => rw [e] at post; exact post.elim
    | some b =>
      rw [e] at post
      exact ⟨v, .ty n, _, _, b, rfl, .ty n, rv.ty s1.1.sub (isi_some e), by rw [← e3]; exact isi_kit e2 e, post.z hl1 s1 (.bl b)⟩
  cases t with
  | lt =>
    obtain ⟨y1, p1, y2, p2, k1, p3, rfl, htt⟩ := tyIs_lt ht
    obtain ⟨⟨⟨t1, t2⟩, t3⟩, t4⟩ : (((y1 == "list") = true ∧ glB sc y1 = true) ∧ (y2 == "tuple") = true) ∧ glB sc y2 = true := by
      rw [Bool.and_eq_true, Bool.and_eq_true, Bool.and_eq_true] at htt
      exact htt
    obtain rfl := k t1
    obtain rfl := k t3
    have h1 : PE X (.Name "list" p1) (tC (.ty "list")) := pe_ty c r (by decide) t2 (by decide +kernel) (by decide)
    have h2 : PE X (.Name "tuple" p2) (tC (.ty "tuple")) := pe_ty c r (by decide) t4 (by decide +kernel) (by decide)
    refine PE.imp (pe_callB call_isiT g1 (c.blt _ (by decide)) boot_isinstance (pa_cons ha (pa_cons (pe_tup (pa_cons h1 (pa_cons h2 pa_nil))) pa_nil) (star_cons hi)) (he := star_cons hi)) fun σ H Q ⟨F, ts, env, hl, s, post⟩ => ⟨F, ts, env, hl, s, ?_⟩
    unfold evalE at post
    refine bindV post fun d env1 v H1 F1 _ hl1 s1 rv rf sF1 p1 post => ?_
    have post := post.rebase sF1 fun z => p1 z
    refine ⟨by show 2 ≤ sizeLine; decide, fun q hq => ?_⟩
    cases e : isiV .lt d with
    | none => rw [e] at post; exact post.elim
    | some b =>
      rw [e] at post
      have s2 := s1.allocT (xs := [.ty "list", .ty "tuple"]) hq
      have rv2 := rv.mono (sub_upd (ob := .tup [.ty "list", .ty "tuple"]) (s1.nonew hq)) (sub_upd (ob := .tup [.ty "list", .ty "tuple"]) hq)
      refine ⟨v, q, [.ty "list", .ty "tuple"], _, [.type "list", .type "tuple"], b, rfl, upd_same, .cons (.ty _) (.cons (.ty _) .nil), rv2.ty s2.1.sub (isi_some e), isi_kit2 e, ?_⟩
      exact post (.bl b) _ _ hl1 (s2.add (.bl b)) (sub_upd (s1.nonew hq)) fun _ => ⟨sub_upd hq, Fresh.z (.bl b)⟩
  | int =>
    cases cl with
    | Name y py =>
      have ht : (y == "int" && glB sc y) = true := ht
      simp only [Bool.and_eq_true] at ht
      obtain rfl := k ht.1
      exact one rfl (by intro z; cases z) rfl (pe_ty c r (by decide) ht.2 (by decide +kernel) (by decide))
    | _ => simp [tyIs] at ht
  | bool =>
    cases cl with
    | Name y py =>
      have ht : (y == "bool" && glB sc y) = true := ht
      simp only [Bool.and_eq_true] at ht
      obtain rfl := k ht.1
      exact one rfl (by intro z; cases z) rfl (pe_ty c r (by decide) ht.2 (by decide +kernel) (by decide))
    | _ => simp [tyIs] at ht
  | str =>
    cases cl with
    | Name y py =>
      have ht : (y == "str" && glB sc y) = true := ht
      simp only [Bool.and_eq_true] at ht
      obtain rfl := k ht.1
      exact one rfl (by intro z; cases z) rfl (pe_ty c r (by decide) ht.2 (by decide +kernel) (by decide))
    | _ => simp [tyIs] at ht
  | list =>
    cases cl with
    | Name y py =>
      have ht : (y == "list" && glB sc y) = true := ht
      simp only [Bool.and_eq_true] at ht
      obtain rfl := k ht.1
      exact one rfl (by intro z; cases z) rfl (pe_ty c r (by decide) ht.2 (by decide +kernel) (by decide))
    | _ => simp [tyIs] at ht
  | tuple =>
    cases cl with
    | Name y py =>
      have ht : (y == "tuple" && glB sc y) = true := ht
      simp only [Bool.and_eq_true] at ht
      obtain rfl := k ht.1
      exact one rfl (by intro z; cases z) rfl (pe_ty c r (by decide) ht.2 (by decide +kernel) (by decide))
    | _ => simp [tyIs] at ht
theorem c_bits {a : RF.X} {x m : Str} {px p pos : Pos} (hm : (m == "bit_length") = true) (hl : (p.endLine == pos.line) = true) (ha : PE X (.Name x px) (tE X.K FA CA W w C a)) : PE X (.Call (.Attribute (.Name x px) m p) [] [] pos) (tE X.K FA CA W w C (.bits a)) := by
  obtain rfl : m = "bit_length" := by simpa using hm
  refine PE.imp (pe_bits ha (by rfl) hl) fun σ H Q ⟨F, ts, env, hl, s, post⟩ => ⟨F, ts, env, hl, s, ?_⟩
  unfold evalE at post
  refine bindE post fun o env1 v H1 F1 _ hl1 s1 sF1 p1 post => ?_
  have post := post.rebase sF1 fun z => (p1 z).1
  split at post
  · obtain rfl := RepV.int (.rep s1.rep : RepV X.K FA F1 H1 v _)
    exact ⟨_, rfl, post.z hl1 s1.tail (.int _)⟩
  · exact post.elim
/-! ### targets -/
/-- nothing but these slots differs -/
def Beside (is : List Nat) (σ σ' : L2.St) : Prop := σ'.length = σ.length ∧ ∀ i, i ∉ is → σ'[i]? = σ[i]?
def tTg (K : PySem.W.Frag) (FA : Fns) (w : W0) (t : Tg) : TG := fun v σ H Q => ∃ F ts env o, env.length = σ.length ∧ Hs K FA w F H ((some v, o) :: (lv σ env ++ ts)) ∧
  ∃ env', tgE t o env = some env' ∧ ∀ σ', Beside (tgSlots t) σ σ' → env'.length = σ'.length → Hs K FA w F H (lv σ' env' ++ ts) → Q σ' H
theorem PG.impT {e : Expr} {t t' : TG} (h : L2.PG X e t) (i : ∀ v σ H Q, t' v σ H Q → t v σ H Q) : L2.PG X e t' := ⟨fun pins s σ H v u Q I r q => h.run pins s σ H v u Q I r (i _ _ _ _ q)⟩
theorem locB_ok (r : ScR X sc) {i : Nat} {x : Str} (h : locB X.N sc i x = true) : X.N[i]? = some x ∧ Loc X.env.scope x ∧ (X.fn x = true ∨ X.env.scope.names.lookup x = some .local) := by
  unfold locB at h
  simp only [Bool.and_eq_true, Bool.or_eq_true, decide_eq_true_eq] at h
  obtain ⟨h1, h2⟩ := h
  rcases h2 with h2 | h2
  · exact ⟨h1, .inl (r.loc x h2), .inr (r.loc x h2)⟩
  · exact ⟨h1, .inr (r.cell x h2).1, .inl (r.cell x h2).2⟩
theorem pg_slot (c : X.N.Nodup) (r : ScR X sc) {i : Nat} {x : Str} {pos : Pos} (h : locB X.N sc i x = true) : L2.PG X (.Name x pos) (gName i) := by
  obtain ⟨h1, h2, h3⟩ := locB_ok r h
  exact pg_name c h1 h2 h3
theorem beside_set {i : Nat} {w' : Option V} (σ : L2.St) : Beside [i] σ (σ.set i w') := ⟨List.length_set, fun j h => by
  rw [List.getElem?_set_ne (fun e => h (by rw [e]; exact List.mem_singleton.mpr rfl))]⟩
theorem Beside.trans {is js : List Nat} {σ σ1 σ2 : L2.St} (a : Beside is σ σ1) (b : Beside js σ1 σ2) : Beside (is ++ js) σ σ2 :=
  ⟨b.1.trans a.1, fun i h => (b.2 i fun z => h (List.mem_append_right _ z)).trans (a.2 i fun z => h (List.mem_append_left _ z))⟩
theorem isE_lt {N : List Str} {i : Nat} {x : Str} (h : N[i]? = some x) : i < N.length := (List.getElem?_eq_some_iff.mp h).1
/-- a state's slots are as many as the names -/
def tTg' (K : PySem.W.Frag) (FA : Fns) (w : W0) (n : Nat) (t : Tg) : TG := fun v σ H Q => σ.length = n ∧ tTg K FA w t v σ H Q
theorem c_tgN (c : X.N.Nodup) (r : ScR X sc) {i : Nat} {x : Str} {pos : Pos} (h : locB X.N sc i x = true) : L2.PG X (.Name x pos) (tTg' X.K FA w X.N.length (.nm i)) := by
  refine PG.impT (pg_slot c r h) fun v σ H Q ⟨hn, F, ts, env, o, hl, s, env', e, q⟩ => ?_
  cases (show some (env.set i (some o)) = some env' from e)
  have hi : i < σ.length := by rw [hn]; exact isE_lt (locB_ok r h).1
  exact q _ (beside_set σ) (by simp [hl]) (Hs.store hl hi s)
/-- several targets, several values -/
def tTgs (K : PySem.W.Frag) (FA : Fns) (w : W0) (n : Nat) (is : List Nat) : TGs := fun vs σ H Q => σ.length = n ∧ ∃ F ts env os, env.length = σ.length ∧ vs.length = os.length ∧ Hs K FA w F H ((vs.map some).zip os ++ (lv σ env ++ ts)) ∧
  ∃ env', setAll env is os = some env' ∧ ∀ σ', Beside is σ σ' → env'.length = σ'.length → Hs K FA w F H (lv σ' env' ++ ts) → Q σ' H
theorem PGs.impT {e : List Expr} {t t' : TGs} (h : L2.PGs X e t) (i : ∀ v σ H Q, t' v σ H Q → t v σ H Q) : L2.PGs X e t' := ⟨fun pins s σ H v u Q I r q => h.run pins s σ H v u Q I r (i _ _ _ _ q)⟩
theorem c_tgs (c : X.N.Nodup) (r : ScR X sc) : ∀ {is : List Nat} {es : List Expr}, tgIs.go X.N sc is es = true → L2.PGs X es (tTgs X.K FA w X.N.length is) ∧ (assignEach es X.env).length = is.length ∧ (assignEach es X.env).findIdx? (·.1) = none
  | [], [], _ => ⟨PGs.impT pgs_nil fun vs σ H Q ⟨hn, F, ts, env, os, hl, hv, s, env', e, q⟩ => (by
      cases os with
      | nil =>
        have : vs = [] := by simpa using hv
        subst this
        cases (show some env = some env' from e)
        exact ⟨rfl, q σ ⟨rfl, fun _ _ => rfl⟩ hl s⟩
      | cons o os => cases e), rfl, rfl⟩
  | [], _ :: _, h => by simp [tgIs.go] at h
  | _ :: _, [], h => by simp [tgIs.go] at h
  | i :: is, e :: es, h => by
    cases e with
    | Name x pos =>
      have h' : locB X.N sc i x = true ∧ tgIs.go X.N sc is es = true := by simpa [tgIs.go] using h
      obtain ⟨h1, h2, h3⟩ := c_tgs c r h'.2
      refine ⟨PGs.impT (pgs_cons (pg_slot c r h'.1) h1) fun vs σ H Q ⟨hn, F, ts, env, os, hl, hv, s, env', e, q⟩ => ?_, ?_, ?_⟩
      · cases os with
        | nil => cases e
        | cons o os =>
          cases vs with
          | nil => simp at hv
          | cons v vs =>
            have hi : i < σ.length := by rw [hn]; exact isE_lt (locB_ok r h'.1).1
            refine ⟨v, vs, rfl, by simpa using hn, F, ts, env.set i (some o), os, by simp [hl], by simpa using hv, ?_, env', e, fun σ' b1 b2 b3 => q σ' ?_ b2 b3⟩
            · have s1 : Hs X.K FA w F H ((some v, o) :: (lv σ env ++ ((vs.map some).zip os ++ ts))) := by
                refine s.perm (List.Perm.cons _ ?_)
                exact perm_abc
              have s2 := Hs.store hl hi s1
              exact s2.perm perm_abc
            · have := (beside_set (i := i) (w' := some v) σ).trans b1
              exact this
      · show (assignEach es X.env).length + 1 = is.length + 1
        rw [h2]
      · show List.findIdx? (·.1) ((false, assign (.Name x pos) X.env) :: assignEach es X.env) = none
        rw [List.findIdx?_cons, h3]
        rfl
    | _ => simp [tgIs.go] at h
theorem items_ok {K : PySem.W.Frag} {v : V} {o : O} {os : List O} {ps : List (Option V × O)} (s : Hs K FA w F H ((some v, o) :: ps)) (e : items? o = some os) : ∃ a vs, v = .ref a ∧ SqT K H a vs ∧ vs.length = os.length ∧ Hs K FA w F H ((vs.map some).zip os ++ ps) := by
  unfold items? at e
  split at e
  · cases e
    have rp := s.rep
    cases rp with
    | tup h r =>
      refine ⟨_, _, rfl, .of (s.1.sub _ _ h), by rw [List.length_map]; exact r.length, ?_⟩
      obtain ⟨hr, A, rA, nd, q⟩ := s.tail
      exact ⟨hr, A, RepL.of_os (A := []) (RepOs.of_reps r) rA, nd, q⟩
  · cases e
    obtain ⟨hr, A, rA, nd, q⟩ := s
    cases rA with
    | cons h1 rB =>
      cases h1 with
      | t h r => exact ⟨_, _, rfl, .of h, r.length, hr, _, RepL.of_os r rB, nd, q⟩
  · cases e
theorem c_tg (c : Cok Nm FA CA C X W) (r : ScR X sc) {t : Tg} {e : Expr} (h : tgIs X.N sc t e = true) : L2.PG X e (tTg' X.K FA w X.N.length t) := by
  cases t with
  | nm i =>
    cases e with
    | Name x pos => exact c_tgN c.nd r (by simpa [tgIs] using h)
    | _ => simp [tgIs] at h
  | tp is =>
    cases e with
    | Tuple es k pos =>
      obtain ⟨h1, h2, h3⟩ := c_tgs (FA := FA) (w := w) c.nd r (show tgIs.go X.N sc is es = true by simpa [tgIs] using h)
      refine PG.impT (pg_tup c.calm h1 h2 h3) fun v σ H Q ⟨hn, F, ts, env, o, hl, s, env', e, q⟩ => ?_
      have e : (items? o).bind (fun os => setAll env is os) = some env' := e
      cases e1 : items? o with
      | none => rw [e1] at e; cases e
      | some os =>
        rw [e1] at e
        obtain ⟨a, vs, rfl, h4, h5, s1⟩ := items_ok s e1
        have hlen : os.length = is.length := setAll_len e
        exact ⟨a, vs, rfl, h4, by rw [h5, hlen], hn, F, ts, env, os, hl, h5, s1, env', e, q⟩
    | _ => simp [tgIs] at h
where
  setAll_len : ∀ {env env' : Env} {is : List Nat} {os : List O}, setAll env is os = some env' → os.length = is.length
    | _, _, [], [], _ => rfl
    | _, _, [], _ :: _, h => by cases h
    | _, _, _ :: _, [], h => by cases h
    | _, _, i :: is, o :: os, h => by
      have := setAll_len (is := is) (os := os) h
      simp [this]
end
end RF
/-! RFm: what loops walk; pops. -/
namespace RF
open L2 PySem PySem.Spec PyProof.Rows
section
variable {Nm : Names} {FA : Fns} {CA : Nat → Option Addr} {C : Cfg} {X : Cx} {W : WX} {w : W0} {sc : Scope}
variable {σ : L2.St} {F F' F1 H H' H1 : Hp} {ts : List (Option V × O)} {Q Q1 : VK} {pu pu1 fl : Bool}
/-! ### what is walked -/
structure WalkOk (K : PySem.W.Frag) (FA : Fns) (w : W0) (J : L2.It) (ds : List D) (F1 : Hp) : Prop where
  go : ∀ k H F, Sub F1 F → Sub F H → k < ds.length → J.go k H
  stop : ∀ k H F, Sub F1 F → Sub F H → ds.length ≤ k → J.stop k H
  yld : ∀ k H x H' F ps d, Sub F1 F → Hs K FA w F H ps → ds[k]? = some d → J.yld k H x H' → ∃ F', Sub F F' ∧ Sub H H' ∧ Hs K FA w F' H' ((some x, .z d) :: ps)
def okIt (K : PySem.W.Frag) (FA : Fns) (w : W0) (pu : Bool) (σ : L2.St) (F H : Hp) (ts : List (Option V × O)) (R : L2.It → Hp → Prop) : List D → Env → Prop := fun ds env' =>
  ∀ J H' F', env'.length = σ.length → Hs K FA w F' H' (lv σ env' ++ ts) → WalkOk K FA w J ds F' → Sub F F' → (pu = true → Sub H H') → R J H'
def tIt (K : PySem.W.Frag) (FA : Fns) (CA : Nat → Option Addr) (W : WX) (w : W0) (C : Cfg) (it : RF.It) : TI := fun σ H R => ∃ F ts env, env.length = σ.length ∧ Hs K FA w F H (lv σ env ++ ts) ∧ RF.PG K FA CA W w σ F (okIt K FA w (pureIt it) σ F H ts R) (evalIt C it env)
theorem PI.imp {tg e : Expr} {t t' : TI} (h : PI X tg e t) (i : ∀ σ H Q, t' σ H Q → t σ H Q) : PI X tg e t' := ⟨fun pins s σ H Q I q => h.run pins s σ H Q I (i _ _ _ q)⟩
theorem walk_list {K : PySem.W.Frag} {a : Addr} {vs : List V} {ds : List D} (e : F a = some (.lst vs)) (r : Reps K FA F vs ds) : WalkOk K FA w (Itl K a) ds F where
  go := fun k H F' s t h => by
    obtain ⟨v, e1, _⟩ := r.get (i := k) (List.getElem?_eq_getElem h)
    exact ⟨vs, v, .of (t _ _ (s _ _ e)), e1⟩
  stop := fun k H F' s t h => ⟨vs, .of (t _ _ (s _ _ e)), by rw [r.length]; exact h⟩
  yld := fun k H x H' F' ps d s hs hd y => by
    obtain ⟨rfl, y⟩ := y
    obtain ⟨v, e1, rv⟩ := r.get hd
    have := y vs (.of (hs.1.sub _ _ (s _ _ e)))
    rw [e1] at this
    cases this
    exact ⟨F', Sub.refl _, Sub.refl _, hs.add (rv.mono s)⟩
theorem walk_tup {K : PySem.W.Frag} {a : Addr} {vs : List V} {ds : List D} (e : F a = some (.tup vs)) (r : Reps K FA F vs ds) : WalkOk K FA w (Itt K a) ds F where
  go := fun k H F' s t h => by
    obtain ⟨v, e1, _⟩ := r.get (i := k) (List.getElem?_eq_getElem h)
    exact ⟨vs, v, .of (t _ _ (s _ _ e)), e1⟩
  stop := fun k H F' s t h => ⟨vs, .of (t _ _ (s _ _ e)), by rw [r.length]; exact h⟩
  yld := fun k H x H' F' ps d s hs hd y => by
    obtain ⟨rfl, y⟩ := y
    obtain ⟨v, e1, rv⟩ := r.get hd
    have := y vs (.of (hs.1.sub _ _ (s _ _ e)))
    rw [e1] at this
    cases this
    exact ⟨F', Sub.refl _, Sub.refl _, hs.add (rv.mono s)⟩
theorem rangeL_len {st : Int} : ∀ (n : Nat) (lo : Int), (rangeL lo st n).length = n
  | 0, _ => rfl
  | n + 1, lo => by simp [rangeL, rangeL_len n]
theorem rangeL_get {st : Int} : ∀ (n k : Nat) (lo : Int), k < n → (rangeL lo st n)[k]? = some (.int (lo + k * st))
  | 0, _, _, h => by omega
  | n + 1, 0, lo, _ => by simp [rangeL]
  | n + 1, k + 1, lo, h => by
    have := rangeL_get (st := st) n k (lo + st) (by omega)
    simp only [rangeL, List.getElem?_cons_succ, this]
    congr 2
    have : ((k + 1 : Nat) : Int) = (k : Int) + 1 := by omega
    rw [this, Int.add_mul, Int.one_mul]; omega
theorem walk_range {K : PySem.W.Frag} {lo : Int} {n : Nat} : WalkOk K FA w (Itr lo n) (rangeL lo 1 n) F where
  go := fun k H F' s t h => by rw [rangeL_len] at h; exact h
  stop := fun k H F' s t h => by rw [rangeL_len] at h; exact h
  yld := fun k H x H' F' ps d s hs hd y => by
    obtain ⟨rfl, rfl⟩ := y
    have hk : k < n := by
      have := (List.getElem?_eq_some_iff.mp hd).1
      rwa [rangeL_len] at this
    rw [rangeL_get n k lo hk] at hd
    cases hd
    refine ⟨F', Sub.refl _, Sub.refl _, hs.add ?_⟩
    rw [Int.mul_one]
    exact .int _
theorem enumL_len : ∀ (ds : List D) (k : Nat), (enumL k ds).length = ds.length
  | [], _ => rfl
  | d :: ds, k => by simp [enumL, enumL_len ds]
theorem enumL_get : ∀ (ds : List D) (j k : Nat) (d : D), ds[j]? = some d → (enumL k ds)[j]? = some (.tup [.int ((k + j : Nat) : Int), d])
  | [], _, _, _, h => by simp at h
  | d :: ds, 0, k, e, h => by simp at h; subst h; simp [enumL]
  | d :: ds, j + 1, k, e, h => by
    have := enumL_get ds j (k + 1) e (by simpa using h)
    simp only [enumL, List.getElem?_cons_succ, this]
    congr 5
    omega
theorem walk_enum {K : PySem.W.Frag} {a : Addr} {vs : List V} {ds : List D} (e : F a = some (.lst vs)) (r : Reps K FA F vs ds) : WalkOk K FA w (Ite K a) (enumL 0 ds) F where
  go := fun k H F' s t h => by
    rw [enumL_len] at h
    obtain ⟨v, e1, _⟩ := r.get (i := k) (List.getElem?_eq_getElem h)
    exact ⟨vs, v, .of (t _ _ (s _ _ e)), e1⟩
  stop := fun k H F' s t h => by
    rw [enumL_len] at h
    exact ⟨vs, .of (t _ _ (s _ _ e)), by rw [r.length]; exact h⟩
  yld := fun k H x H' F' ps d s hs hd y => by
    have hk : k < ds.length := by
      have := (List.getElem?_eq_some_iff.mp hd).1
      rwa [enumL_len] at this
    obtain ⟨v, e1, rv⟩ := r.get (i := k) (List.getElem?_eq_getElem hk)
    rw [enumL_get ds k 0 _ (List.getElem?_eq_getElem hk)] at hd
    cases hd
    obtain ⟨T, z, rfl, hT, rfl, y⟩ := y
    have := y vs (.of (hs.1.sub _ _ (s _ _ e)))
    rw [e1] at this
    cases this
    have s2 := hs.allocT (xs := [.int (k : Nat), v]) hT
    refine ⟨_, sub_upd (hs.nonew hT), sub_upd hT, s2.add (.tup upd_same (.cons ?_ (.cons ((rv.mono s).mono (sub_upd (hs.nonew hT))) .nil)))⟩
    rw [Nat.zero_add]
    exact .int _
theorem c_seq {tg e : Expr} {a : RF.X} (ha : PE X e (tE X.K FA CA W w C a)) : PI X tg e (tIt X.K FA CA W w C (.seq a)) := by
  refine ⟨fun pins s σ H R I ⟨F, ts, env, hl, s0, post⟩ => ?_⟩
  unfold evalIt at post
  cases e1 : evalE C a env with
  | no => rw [e1] at post; exact post.elim
  | ex c ds =>
    rw [e1] at post
    refine (pi_list (tg := tg) ha).run pins s σ H R I ⟨F, ts, env, hl, s0, ?_⟩
    rw [e1]; exact post
  | ok o env1 =>
    rw [e1] at post
    have post : RF.PG X.K FA CA W w σ F (okIt X.K FA w (pureIt (.seq a)) σ F H ts R) (match o.toD with | .lst ds => .ok ds env1 | .tup ds => .ok ds env1 | _ => .no) := post
    split at post
    · rename_i ds ed
      refine (pi_list (tg := tg) ha).run pins s σ H R I ⟨F, ts, env, hl, s0, ?_⟩
      rw [e1]
      intro v H1 F1 hl1 s1 sF1 p1
      obtain ⟨F2, sF2, s2⟩ := s1.freeze
      have rp : Rep X.K FA F2 v o.toD := s2.rep
      rw [ed] at rp
      cases rp with
      | lst h r => exact ⟨_, rfl, ⟨_, .of (s2.1.sub _ _ h)⟩, post _ H1 F2 hl1 s2.tail (walk_list h r) (sF1.trans sF2) fun z => (p1 z).1⟩
    · rename_i ds ed
      refine (pi_tup (tg := tg) ha).run pins s σ H R I ⟨F, ts, env, hl, s0, ?_⟩
      rw [e1]
      intro v H1 F1 hl1 s1 sF1 p1
      obtain ⟨F2, sF2, s2⟩ := s1.freeze
      have rp : Rep X.K FA F2 v o.toD := s2.rep
      rw [ed] at rp
      cases rp with
      | tup h r => exact ⟨_, rfl, ⟨_, .of (s2.1.sub _ _ h)⟩, post _ H1 F2 hl1 s2.tail (walk_tup h r) (sF1.trans sF2) fun z => (p1 z).1⟩
    · exact post.elim
theorem rng_ok {i : Int} (h : rngOk i = true) : -(2 ^ 62) ≤ i ∧ i < 2 ^ 62 := by
  unfold rngOk at h
  simp only [Bool.and_eq_true, decide_eq_true_eq] at h
  omega
theorem c_rng1 {tg u : Expr} {a : RF.X} {x : Str} {p pos : Pos} (c : Cok Nm FA CA C X W) (r : ScR X sc) (hx : (x == "range") = true) (hg : glB sc x = true) (hi : isE Nm X.N a sc u = true) (ha : PE X u (tE X.K FA CA W w C a)) :
    PI X tg (.Call (.Name x p) [u] [] pos) (tIt X.K FA CA W w C (.rng1 a)) := by
  obtain rfl : x = "range" := by simpa using hx
  refine PI.imp (pi_range1 (glB_ok r hg).1 (c.blt _ (by decide)) (pa_cons ha pa_nil (star_cons hi)) (star_cons hi)) fun σ H R ⟨F, ts, env, hl, s0, post⟩ => ⟨F, ts, env, hl, s0, ?_⟩
  unfold evalIt at post
  refine bindG post fun o env1 v H1 F1 _ hl1 s1 sF1 p1 post => ?_
  cases o with
  | z d =>
    cases d with
    | int n =>
      have post : RF.PG X.K FA CA W w σ F _ (if rngOk n then RF.R.ok (rangeL 0 1 n.toNat) env1 else .no) := post
      split at post
      · rename_i hn
        obtain rfl := RepV.int (.rep s1.rep : RepV X.K FA F1 H1 v _)
        obtain ⟨h1, h2⟩ := rng_ok hn
        exact ⟨n, rfl, h1, h2, post _ H1 F1 hl1 s1.tail walk_range sF1 fun z => (p1 z).1⟩
      · exact post.elim
    | _ => exact post.elim
  | _ => exact post.elim
theorem c_rng2 {tg u v : Expr} {a b : RF.X} {x : Str} {p pos : Pos} (c : Cok Nm FA CA C X W) (r : ScR X sc) (hx : (x == "range") = true) (hg : glB sc x = true) (hi : isE Nm X.N a sc u = true) (hi2 : isE Nm X.N b sc v = true) (ha : PE X u (tE X.K FA CA W w C a)) (hb : PE X v (tE X.K FA CA W w C b)) :
    PI X tg (.Call (.Name x p) [u, v] [] pos) (tIt X.K FA CA W w C (.rng2 a b)) := by
  obtain rfl : x = "range" := by simpa using hx
  refine PI.imp (pi_range2 (glB_ok r hg).1 (c.blt _ (by decide)) (pa_cons ha (pa_cons hb pa_nil (star_cons hi2)) (star_cons hi)) (by rw [star_cons hi, star_cons hi2]; rfl) (star_cons hi2)) fun σ H R ⟨F, ts, env, hl, s0, post⟩ => ⟨F, ts, env, hl, s0, ?_⟩
  unfold evalIt at post
  have pp := fun z => Bool.and_eq_true_iff.mp (show (pureX a && pureX b) = true from z)
  refine bindG post fun o env1 v H1 F1 _ hl1 s1 sF1 p1 post => ⟨F1, (some v, o) :: ts, env1, hl1, s1.toTemp, ?_⟩
  rw [PG.bind] at post
  rw [Post.pg]
  refine post.rebaseE sF1 fun o2 env2 _ post v2 H2 F2 hl2 s2 sF2 p2 => ?_
  have s3 := s2.swapTemp
  cases o with
  | z d =>
    cases d with
    | int m =>
      cases o2 with
      | z d =>
        cases d with
        | int n =>
          have post : RF.PG X.K FA CA W w σ F _ (if rngOk m && rngOk n then RF.R.ok (rangeL m 1 (n - m).toNat) env2 else .no) := post
          split at post
          · rename_i hn
            have hn' := Bool.and_eq_true_iff.mp hn
            obtain rfl := RepV.int (.rep s3.rep : RepV X.K FA F2 H2 v _)
            obtain rfl := RepV.int (.rep s2.rep : RepV X.K FA F2 H2 v2 _)
            obtain ⟨h1, h2⟩ := rng_ok hn'.1
            obtain ⟨h3, h4⟩ := rng_ok hn'.2
            exact ⟨m, n, rfl, ⟨h1, h2, h3, h4⟩, post _ H2 F2 hl2 s3.tail.tail walk_range (sF1.trans sF2) fun z => (p1 (pp z).1).1.trans (p2 (pp z).2).1⟩
          · exact post.elim
        | _ => exact post.elim
      | _ => exact post.elim
    | _ => cases o2 <;> exact post.elim
  | _ => cases o2 <;> exact post.elim
theorem c_enum {u : Expr} {a : RF.X} {x : Str} {p pos tpos : Pos} {elts : List Expr} {kk : Nat} (c : Cok Nm FA CA C X W) (r : ScR X sc) (hx : (x == "enumerate") = true) (hg : glB sc x = true) (hi : isE Nm X.N a sc u = true) (ha : PE X u (tE X.K FA CA W w C a)) :
    PI X (.Tuple elts kk tpos) (.Call (.Name x p) [u] [] pos) (tIt X.K FA CA W w C (.enum a)) := by
  obtain rfl : x = "enumerate" := by simpa using hx
  refine PI.imp (pi_enum (glB_ok r hg).1 (c.blt _ (by decide)) (pa_cons ha pa_nil (star_cons hi)) (star_cons hi)) fun σ H R ⟨F, ts, env, hl, s0, post⟩ => ⟨F, ts, env, hl, s0, ?_⟩
  unfold evalIt at post
  refine bindG post fun o env1 v H1 F1 _ hl1 s1 sF1 p1 post => ?_
  split at post
  · rename_i ds ed
    obtain ⟨F2, sF2, s2⟩ := s1.freeze
    have rp : Rep X.K FA F2 v o.toD := s2.rep
    rw [ed] at rp
    cases rp with
    | lst h r => exact ⟨_, _, rfl, .of (s2.1.sub _ _ h), post _ H1 F2 hl1 s2.tail (walk_enum h r) (sF1.trans sF2) fun z => (p1 z).1⟩
  · exact post.elim
theorem notSet {Nm : Names} {N : List Str} {m : RF.X} {sc : Scope} {es : List Expr} {k : Nat} {p : Pos} : isE Nm N m sc (.Set es k p) = false := by cases m <;> rfl
theorem isIt_fold {N : List Str} {it : RF.It} {tg e : Expr} {env : PySem.Env} (h : isIt Nm N it sc tg e = true) : ∀ x, foldedSetIterable e env x = pure x := fun x => by
  cases e <;> first | rfl | skip
  rename_i es k p
  exfalso
  cases it <;> simp [isIt] at h
  rw [notSet] at h; cases h
/-! ### list(range(..)) -/
theorem rgV_rep {K : PySem.W.Frag} {lo hi : Int} : Reps K FA F (rgV lo hi) (rangeL lo 1 (hi - lo).toNat) := by
  have key : ∀ (n : Nat) (lo : Int), Reps K FA F ((List.range n).map fun i => V.int (lo + (i : Nat))) (rangeL lo 1 n) := by
    intro n
    induction n with
    | zero => intro lo; exact .nil
    | succ n ih =>
      intro lo
      rw [List.range_succ_eq_map, List.map_cons, List.map_map]
      refine .cons (by rw [show ((0 : Nat) : Int) = 0 from rfl, Int.add_zero]; exact .int _) ?_
      have := ih (lo + 1)
      have e : (fun i => V.int (lo + (i : Nat))) ∘ Nat.succ = fun i : Nat => V.int (lo + 1 + (i : Nat)) := by
        funext i
        show V.int (lo + ((i + 1 : Nat) : Int)) = _
        congr 1
        omega
      rw [e]; exact this
  exact key _ _
theorem c_lrange {it : RF.It} {x : Str} {u : Expr} {p pos : Pos} (c : Cok Nm FA CA C X W) (r : ScR X sc) (hx : (x == "list") = true) (hg : glB sc x = true) (hi : isIt Nm X.N it sc (.Name "x" ⟨0, 0, 0, 0⟩) u = true)
    (h1 : ∀ a, it = .rng1 a → ∀ y, isE Nm X.N a sc y = true → PE X y (tE X.K FA CA W w C a)) (h2 : ∀ a b, it = .rng2 a b → ∀ y, (isE Nm X.N a sc y = true → PE X y (tE X.K FA CA W w C a)) ∧ (isE Nm X.N b sc y = true → PE X y (tE X.K FA CA W w C b)))
    (hk : (match it with | .rng1 _ => true | .rng2 _ _ => true | _ => false) = true) : PE X (.Call (.Name x p) [u] [] pos) (tE X.K FA CA W w C (.lrange it)) := by
  obtain rfl : x = "list" := by simpa using hx
  have g := (glB_ok r hg).1
  have st : ∀ {u : Expr}, (∀ e p, u ≠ .Starred e p) → starEach [u] X.env = (false, eval u X.env) :: starEach [] X.env := fun {u} h => by cases u <;> first | rfl | exact absurd rfl (h _ _)
  cases it with
  | rng1 a =>
    cases u <;> first | (simp [isIt] at hi; done) | skip
    rename_i f us kws p2
    cases f <;> first | (simp [isIt] at hi; done) | skip
    rename_i y p3
    rcases us with _ | ⟨u1, _ | ⟨u2, us⟩⟩ <;> first | (simp [isIt] at hi; done) | skip
    cases kws with
    | cons k ks => simp [isIt] at hi
    | nil =>
      have hi' : (((y == "range") = true ∧ glB sc y = true) ∧ isE Nm X.N a sc u1 = true) := by
        have : (y == "range" && glB sc y && isE Nm X.N a sc u1) = true := hi
        rw [Bool.and_eq_true, Bool.and_eq_true] at this
        exact this
      obtain ⟨⟨i1, i2⟩, i3⟩ := hi'
      obtain rfl : y = "range" := by simpa using i1
      refine PE.imp (pe_listRg c.calm g (c.blt _ (by decide)) (prg_1 (glB_ok r i2).1 (c.blt _ (by decide)) (h1 a rfl u1 i3) (star_cons i3)) (st fun _ _ z => by cases z)) fun σ H Q ⟨F, ts, env, hl, s, post⟩ => ⟨F, ts, env, hl, s, ?_⟩
      unfold evalE at post
      rw [Post.pg, PG.bind] at post
      unfold evalIt at post
      refine bindG post fun o env1 v H1 F1 _ hl1 s1 sF1 p1 post => ?_
      cases o with
      | z d =>
        cases d with
        | int n =>
          have post : RF.PG X.K FA CA W w σ F (fun ds env1 => RF.PG X.K FA CA W w σ F (okE X.K FA w (pureX (.lrange (.rng1 a))) σ F H ts Q) (if lenOk ds then RF.R.ok (.l (ds.map .z)) env1 else .no)) (if rngOk n then RF.R.ok (rangeL 0 1 n.toNat) env1 else .no) := post
          split at post
          · rename_i hn
            have post : RF.PG X.K FA CA W w σ F (okE X.K FA w (pureX (.lrange (.rng1 a))) σ F H ts Q) (if lenOk (rangeL 0 1 n.toNat) then RF.R.ok (.l ((rangeL 0 1 n.toNat).map .z)) env1 else .no) := post
            split at post
            · rename_i hz
              obtain rfl := RepV.int (.rep s1.rep : RepV X.K FA F1 H1 v _)
              obtain ⟨b1, b2⟩ := rng_ok hn
              have hz' : (rangeL 0 1 n.toNat).length < 2 ^ 20 := of_decide_eq_true hz
              rw [rangeL_len] at hz'
              refine ⟨n, rfl, ⟨by omega, by omega, b1, b2, by omega⟩, fun q hq => ?_⟩
              have post := (Post.pg.mpr post).rebase sF1 fun z => (p1 z).1
              have e0 : (n - 0).toNat = n.toNat := by rw [Int.sub_zero]
              refine Hs.freshList (post.done hl1) s1.tail ?_ hq
              have := rgV_rep (K := X.K) (FA := FA) (F := F1) (lo := 0) (hi := n)
              rwa [e0] at this
            · exact post.elim
          · exact post.elim
        | _ => exact post.elim
      | _ => exact post.elim
  | rng2 a b =>
    cases u <;> first | (simp [isIt] at hi; done) | skip
    rename_i f us kws p2
    cases f <;> first | (simp [isIt] at hi; done) | skip
    rename_i y p3
    rcases us with _ | ⟨u1, _ | ⟨u2, _ | ⟨u3, us⟩⟩⟩ <;> first | (simp [isIt] at hi; done) | skip
    cases kws with
    | cons k ks => simp [isIt] at hi
    | nil =>
      have hi' : ((((y == "range") = true ∧ glB sc y = true) ∧ isE Nm X.N a sc u1 = true) ∧ isE Nm X.N b sc u2 = true) := by
        have : (y == "range" && glB sc y && isE Nm X.N a sc u1 && isE Nm X.N b sc u2) = true := hi
        rw [Bool.and_eq_true, Bool.and_eq_true, Bool.and_eq_true] at this
        exact this
      obtain ⟨⟨⟨i1, i2⟩, i3⟩, i4⟩ := hi'
      obtain rfl : y = "range" := by simpa using i1
      refine PE.imp (pe_listRg c.calm g (c.blt _ (by decide)) (prg_2 (glB_ok r i2).1 (c.blt _ (by decide)) ((h2 a b rfl u1).1 i3) ((h2 a b rfl u2).2 i4) (star_cons i3) (star_cons i4) (by rw [star_cons i4]; rfl)) (st fun _ _ z => by cases z)) fun σ H Q ⟨F, ts, env, hl, s, post⟩ => ⟨F, ts, env, hl, s, ?_⟩
      unfold evalE at post
      rw [Post.pg, PG.bind] at post
      unfold evalIt at post
      have pp := fun z => Bool.and_eq_true_iff.mp (show (pureX a && pureX b) = true from z)
      refine bindG post fun o env1 v H1 F1 _ hl1 s1 sF1 p1 post => ⟨F1, (some v, o) :: ts, env1, hl1, s1.toTemp, ?_⟩
      rw [PG.bind] at post
      rw [Post.pg]
      refine post.rebaseE sF1 fun o2 env2 _ post v2 H2 F2 hl2 s2 sF2 p2 => ?_
      have s3 := s2.swapTemp
      cases o with
      | z d =>
        cases d with
        | int m =>
          cases o2 with
          | z d =>
            cases d with
            | int n =>
              have post : RF.PG X.K FA CA W w σ F (fun ds env1 => RF.PG X.K FA CA W w σ F (okE X.K FA w (pureX (.lrange (.rng2 a b))) σ F H ts Q) (if lenOk ds then RF.R.ok (.l (ds.map .z)) env1 else .no)) (if rngOk m && rngOk n then RF.R.ok (rangeL m 1 (n - m).toNat) env2 else .no) := post
              split at post
              · rename_i hn
                have hn' := Bool.and_eq_true_iff.mp hn
                have post : RF.PG X.K FA CA W w σ F (okE X.K FA w (pureX (.lrange (.rng2 a b))) σ F H ts Q) (if lenOk (rangeL m 1 (n - m).toNat) then RF.R.ok (.l ((rangeL m 1 (n - m).toNat).map .z)) env2 else .no) := post
                split at post
                · rename_i hz
                  obtain rfl := RepV.int (.rep s3.rep : RepV X.K FA F2 H2 v _)
                  obtain rfl := RepV.int (.rep s2.rep : RepV X.K FA F2 H2 v2 _)
                  obtain ⟨b1, b2⟩ := rng_ok hn'.1
                  obtain ⟨b3, b4⟩ := rng_ok hn'.2
                  have hz' : (rangeL m 1 (n - m).toNat).length < 2 ^ 20 := of_decide_eq_true hz
                  rw [rangeL_len] at hz'
                  refine ⟨m, n, rfl, rfl, ⟨b1, b2, b3, b4, by omega⟩, fun q hq => ?_⟩
                  have post := (Post.pg.mpr post).rebase (sF1.trans sF2) fun z => (p1 (pp z).1).1.trans (p2 (pp z).2).1
                  exact Hs.freshList (post.done hl2) s3.tail.tail rgV_rep hq
                · exact post.elim
              · exact post.elim
            | _ => exact post.elim
          | _ => exact post.elim
        | _ => cases o2 <;> exact post.elim
      | _ => cases o2 <;> exact post.elim
  | _ => cases hk
/-! ### pop -/
theorem attr_line {m : Str} {p q : Pos} (h : (p.endLine == q.line) = true) : p.endLine = q.line := by simpa using h
end
end RF
/-! RFn: list comprehensions; pops. -/
namespace RF
open L2 PySem PySem.Spec PyProof.Rows
theorem lv_setw : ∀ {σ : L2.St} {env : Env} {i : Nat} {u : Option V}, env.length = σ.length → getE env i = none → lv (σ.set i u) env = lv σ env
  | [], [], _, _, _, _ => rfl
  | [], _ :: _, _, _, hl, _ => by simp at hl
  | _ :: _, [], _, _, hl, _ => by simp at hl
  | w :: σ, x :: env, 0, u, hl, e => by
    cases x with
    | none => rfl
    | some x => simp [getE] at e
  | w :: σ, x :: env, i + 1, u, hl, e => by
    have h := lv_setw (σ := σ) (env := env) (i := i) (u := u) (by simpa using hl) (by simpa [getE] using e)
    rw [List.set_cons_succ]
    cases x with
    | none => rw [lv_none, lv_none, h]
    | some x => rw [lv_some, lv_some, h]
theorem wipeE_len (env : Env) : ∀ is : List Nat, (wipeE env is).length = env.length
  | [] => rfl
  | i :: is => by simp [wipeE, wipeE_len env is]
theorem getE_set_ne {env : Env} {i j : Nat} {o : Option O} (h : i ≠ j) : getE (env.set i o) j = getE env j := by
  unfold getE
  rw [List.getElem?_set_ne h]
theorem getE_set_none {env : Env} {i : Nat} : getE (env.set i none) i = none := by
  unfold getE
  by_cases h : i < env.length
  · rw [List.getElem?_set_self h]; rfl
  · rw [List.getElem?_eq_none (by simpa using h)]; rfl
theorem getE_wipe_ne {env : Env} : ∀ {is : List Nat} {j : Nat}, j ∉ is → getE (wipeE env is) j = getE env j
  | [], _, _ => rfl
  | i :: is, j, h => by
    have h' : j ≠ i ∧ j ∉ is := ⟨fun e => h (e ▸ List.mem_cons_self), fun m => h (List.mem_cons_of_mem _ m)⟩
    show getE ((wipeE env is).set i none) j = _
    rw [getE_set_ne (Ne.symm h'.1), getE_wipe_ne h'.2]
theorem getE_wipe {env : Env} : ∀ {is : List Nat} {j : Nat}, j ∈ is → getE (wipeE env is) j = none
  | i :: is, j, h => by
    show getE ((wipeE env is).set i none) j = _
    by_cases e : i = j
    · subst e; exact getE_set_none
    · rw [getE_set_ne e]
      rcases List.mem_cons.mp h with z | z
      · exact absurd z.symm e
      · exact getE_wipe z
theorem restore_len {old new : Env} : ∀ is : List Nat, (restore old new is).length = new.length
  | [] => rfl
  | i :: is => by simp [restore, restore_len is]
theorem getE_restore_ne {old new : Env} : ∀ {is : List Nat} {j : Nat}, j ∉ is → getE (restore old new is) j = getE new j
  | [], _, _ => rfl
  | i :: is, j, h => by
    have h' : j ≠ i ∧ j ∉ is := ⟨fun e => h (e ▸ List.mem_cons_self), fun m => h (List.mem_cons_of_mem _ m)⟩
    show getE ((restore old new is).set i _) j = _
    rw [getE_set_ne (Ne.symm h'.1), getE_restore_ne h'.2]
/-- what the block's own names hid -/
def hid (σ : L2.St) (env : Env) : List Nat → List (Option V × O)
  | [] => []
  | i :: is => (match getE env i with | some o => [((σ[i]?).join, o)] | none => []) ++ hid σ env is
section
variable {K : PySem.W.Frag} {FA : Fns} {w : W0} {F F' H H' : Hp} {ts ps : List (Option V × O)} {σ : L2.St} {env : Env}
theorem Hs.hide : ∀ {is : List Nat}, is.Nodup → env.length = σ.length → Hs K FA w F H (lv σ env ++ ts) → Hs K FA w F H (lv (L2.wipe σ is) (wipeE env is) ++ (hid σ env is ++ ts))
  | [], _, _, s => s
  | i :: is, nd, hl, s => by
    obtain ⟨n1, n2⟩ := List.nodup_cons.mp nd
    have s1 := Hs.hide n2 hl s
    have hl1 : (wipeE env is).length = (wipe σ is).length := by rw [wipeE_len, wipe_length, hl]
    show Hs K FA w F H (lv ((wipe σ is).set i none) ((wipeE env is).set i none) ++ (((match getE env i with | some o => [((σ[i]?).join, o)] | none => []) ++ hid σ env is) ++ ts))
    rw [lv_setw (by simp [hl1]) getE_set_none]
    cases e : getE env i with
    | none =>
      rw [lv_none_of hl1 (by rw [getE_wipe_ne n1, e])]
      exact s1
    | some o =>
      obtain ⟨v, e1, s2⟩ := s1.take hl1 (by rw [getE_wipe_ne n1, e])
      have e2 := (wipe_some e1).1
      have e3 : (σ[i]?).join = some v := by rw [e2]; rfl
      show Hs K FA w F H (lv (wipe σ is) ((wipeE env is).set i none) ++ (([((σ[i]?).join, o)] ++ hid σ env is) ++ ts))
      rw [e3]
      exact s2.toTemp
theorem Hs.unhide {env2 : Env} : ∀ {is : List Nat} {ts : List (Option V × O)}, is.Nodup → env.length = σ.length → env2.length = σ.length → (∀ i ∈ is, getE env2 i = none) → (∀ i ∈ is, ∀ o, getE env i = some o → ∃ v, σ[i]? = some (some v)) →
    Hs K FA w F H (lv (L2.wipe σ is) env2 ++ (hid σ env is ++ ts)) → Hs K FA w F H (lv σ (RF.restore env env2 is) ++ ts)
  | [], _, _, _, _, _, _, s => s
  | i :: is, ts, nd, hl, hl2, hn, hv, s => by
    obtain ⟨n1, n2⟩ := List.nodup_cons.mp nd
    have s : Hs K FA w F H (lv ((L2.wipe σ is).set i none) env2 ++ (((match getE env i with | some o => [((σ[i]?).join, o)] | none => []) ++ hid σ env is) ++ ts)) := s
    rw [lv_setw (by rw [wipe_length, hl2]) (hn i List.mem_cons_self)] at s
    have s1 : Hs K FA w F H (lv (L2.wipe σ is) env2 ++ (hid σ env is ++ ((match getE env i with | some o => [((σ[i]?).join, o)] | none => []) ++ ts))) := by
      refine s.perm (List.Perm.append_left _ ?_)
      rw [List.append_assoc]
      exact perm_abc
    have s2 := Hs.unhide n2 hl hl2 (fun j m => hn j (List.mem_cons_of_mem _ m)) (fun j m => hv j (List.mem_cons_of_mem _ m)) s1
    have hl3 : (RF.restore env env2 is).length = σ.length := by rw [restore_len, hl2]
    have gn : getE (RF.restore env env2 is) i = none := by rw [getE_restore_ne n1]; exact hn i List.mem_cons_self
    show Hs K FA w F H (lv σ ((RF.restore env env2 is).set i ((env[i]?).join)) ++ ts)
    cases e : getE env i with
    | none =>
      have e' : (env[i]?).join = none := e
      rw [e', lv_none_of hl3 gn]
      rw [e] at s2
      exact s2
    | some o =>
      have e' : (env[i]?).join = some o := e
      rw [e']
      rw [e] at s2
      obtain ⟨v, e1⟩ := hv i List.mem_cons_self o e
      have e3 : (σ[i]?).join = some v := by rw [e1]; rfl
      have s3 : Hs K FA w F H ((some v, o) :: (lv σ ((RF.restore env env2 is).set i none) ++ ts)) := by
        rw [lv_none_of hl3 gn]
        have s2 : Hs K FA w F H (lv σ (RF.restore env env2 is) ++ ((σ[i]?).join, o) :: ts) := s2
        rw [e3] at s2
        exact s2.ofTemp
      exact s3.back hl3 e1
theorem Hs.wipe : ∀ {is : List Nat}, env.length = σ.length → Hs K FA w F H (lv σ env ++ ts) → Hs K FA w F H (lv (L2.wipe σ is) (wipeE env is) ++ ts)
  | [], _, s => s
  | i :: is, hl, s => by
    have s1 := Hs.wipe (is := is) hl s
    have hl1 : (wipeE env is).length = (L2.wipe σ is).length := by rw [wipeE_len, wipe_length, hl]
    show Hs K FA w F H (lv ((L2.wipe σ is).set i none) ((wipeE env is).set i none) ++ ts)
    rw [lv_setw (by simp [hl1]) getE_set_none]
    exact s1.forget hl1
theorem Hs.slots (hl : env.length = σ.length) (s : Hs K FA w F H (lv σ env ++ ts)) : ∀ i o, getE env i = some o → ∃ v, σ[i]? = some (some v) := fun i o e => by
  obtain ⟨v, e1, _⟩ := s.take hl e
  exact ⟨v, e1⟩
end
theorem wipe_getElem {σ : L2.St} : ∀ {is : List Nat} {j : Nat}, (wipe σ is)[j]? = if j ∈ is then (σ[j]?).map fun _ => none else σ[j]?
  | [], j => by simp [wipe]
  | i :: is, j => by
    show ((wipe σ is).set i none)[j]? = _
    by_cases e : i = j
    · subst e
      rw [if_pos List.mem_cons_self]
      by_cases h : i < σ.length
      · rw [List.getElem?_set_self (by rw [wipe_length]; exact h), List.getElem?_eq_getElem h]; rfl
      · rw [List.getElem?_eq_none (by rw [List.length_set, wipe_length]; omega), List.getElem?_eq_none (by omega)]; rfl
    · rw [List.getElem?_set_ne e, wipe_getElem]
      by_cases m : j ∈ is
      · rw [if_pos m, if_pos (List.mem_cons_of_mem _ m)]
      · rw [if_neg m, if_neg (fun z => (List.mem_cons.mp z).elim (fun z => e z.symm) m)]
theorem wipe_beside {σ σ' : L2.St} {is js : List Nat} (b : Beside js (wipe σ is) σ') (h : ∀ j ∈ js, j ∈ is) : wipe σ' is = wipe σ is := by
  apply List.ext_getElem?
  intro j
  rw [wipe_getElem, wipe_getElem]
  by_cases m : j ∈ is
  · rw [if_pos m, if_pos m]
    have hl : σ'.length = σ.length := by rw [b.1, wipe_length]
    by_cases q : j < σ.length
    · rw [List.getElem?_eq_getElem q, List.getElem?_eq_getElem (by omega)]; rfl
    · rw [List.getElem?_eq_none (by omega), List.getElem?_eq_none (by omega)]
  · rw [if_neg m, if_neg m, b.2 j (fun z => m (h j z)), wipe_getElem, if_neg m]
section
variable {Nm : Names} {FA : Fns} {CA : Nat → Option Addr} {C : Cfg} {X : Cx} {W : WX} {w : W0} {sc : Scope}
variable {σ : L2.St} {F F' F1 H H' H1 : Hp} {ts : List (Option V × O)} {Q Q1 : VK} {pu pu1 fl : Bool}
abbrev WF : WX := fun _ _ _ _ => False
/-- a clause's tests -/
def tCond (K : PySem.W.Frag) (FA : Fns) (CA : Nat → Option Addr) (w : W0) (C : Cfg) (m : Xo) : TT := fun σ H Q => ∃ F ts env, env.length = σ.length ∧ Hs K FA w F H (lv σ env ++ ts) ∧
  Post K FA CA WF w (pureXo m) σ F H ts (fun x H' => ∃ k, x = .bl k ∧ Q k H') (evalCond C m env)
theorem PTs.imp {ifs : List Expr} {t t' : TT} (h : PTs X ifs t) (i : ∀ σ H Q, t' σ H Q → t σ H Q) : PTs X ifs t' := ⟨fun pins s σ H Q I q => h.run pins s σ H Q I (i _ _ _ q)⟩
theorem c_condN : PTs X [] (tCond X.K FA CA w C .none) := by
  refine PTs.imp pts_nil fun σ H Q ⟨F, ts, env, hl, s, post⟩ => ?_
  obtain ⟨k, e, q⟩ := post (.bl true) H F hl (s.add (.bl true)) (Sub.refl _) fun _ => ⟨Sub.refl _, Fresh.z (.bl true)⟩
  cases e
  exact q
theorem c_condS {m : RF.X} {e : Expr} (h : PT X e (tTest (tE X.K FA CA WF w C m))) : PTs X [e] (tCond X.K FA CA w C (.some m)) :=
  PTs.imp (pts_one h) fun σ H Q ⟨F, ts, env, hl, s, post⟩ => ⟨F, ts, env, hl, s, post⟩
theorem nox_ok {r : R O} {α : Type} {k : O → Env → R α} {a : α} {env : Env} : (r.nox.bind k) = (match r with | .ok o e => k o e | _ => .no) := by cases r <;> rfl
theorem i_comp {elt : RF.X} {t : Tg} {it : RF.It} {cd : Xo} {own : List Nat} (hnd : own.Nodup) (hin : ∀ i ∈ tgSlots t, i ∈ own) : ∀ σ H Q, σ.length = X.N.length → tE X.K FA CA W w C (.comp elt t it cd own) σ H Q → tLc (tIt X.K FA CA W w C it) (tTg' X.K FA w X.N.length t) (tCond X.K FA CA w C cd) (tE X.K FA CA WF w C elt) own σ H Q := by
  intro σ H Q hn ⟨F, ts, env, hl, s0, post⟩
  refine ⟨F, ts, env, hl, s0, ?_⟩
  unfold evalE at post
  rw [Post.pg, PG.bind] at post
  have pp := fun z => Bool.and_eq_true_iff.mp (show ((pureX elt && pureIt it) && pureXo cd) = true from z)
  refine post.imp fun ds env1 _ post J H1 F1 hl1 s1 wk sF1 p1 => ?_
  intro D hD
  -- the result as the evaluator has it
  have post : RF.PG X.K FA CA W w σ F (okE X.K FA w (pureX (.comp elt t it cd own)) σ F H ts Q) ((evalComp (fun e => evalE C elt e) t (fun e => evalCond C cd e) own ds (wipeE env1 own) []).bind fun os env2 =>
      .ok (.l os) (if (pureX elt && pureIt it && pureXo cd) && O.cleans os then env else restore env1 env2 own)) := post
  generalize er : evalComp (fun e => evalE C elt e) t (fun e => evalCond C cd e) own ds (wipeE env1 own) [] = rr at post
  let Inv' : Nat → Nat → Hp → Prop := fun i m H2 => m = ds.length - i ∧ i ≤ ds.length ∧ ∃ F2 env2 acc vs, Sub F1 F2 ∧ env2.length = σ.length ∧ (∀ j ∈ own, getE env2 j = none) ∧
    Hs X.K FA w F2 H2 ((some (.ref D), .l acc) :: (lv (wipe σ own) env2 ++ (hid σ env1 own ++ ts))) ∧ H2 D = some (.lst vs) ∧ evalComp (fun e => evalE C elt e) t (fun e => evalCond C cd e) own (ds.drop i) env2 acc = rr ∧
    ((pureX elt && pureXo cd) = true → Sub H1 H2 ∧ ∃ A, RepOs X.K FA F2 H2 vs acc A ∧ ∀ a ∈ A, H1 a = none)
  have hlw : (wipeE env1 own).length = σ.length := by rw [wipeE_len, hl1]
  refine ⟨Inv', ⟨ds.length, by omega, by omega, F1, wipeE env1 own, [], [], Sub.refl _, hlw, fun j m => getE_wipe m, ?_, upd_same, er, fun _ => ⟨sub_upd hD, [], .nil, fun a m => nomatch m⟩⟩, ?_⟩
  · have s2 := s1.hide hnd hl1
    exact s2.newList (ds := []) (vs := []) .nil hD
  rintro i m H2 ⟨rfl, hi2, F2, env2, acc, vs, sF2, hl2, hn2, s2, hv2, er2, p2⟩
  by_cases hlast : i < ds.length
  · -- a turn
    right
    have hsub : Sub F2 H2 := s2.1.sub
    refine ⟨wk.go i H2 F2 sF2 hsub hlast, Inv' (i + 1) (ds.length - (i + 1)), fun H' h => ⟨_, by omega, h⟩, fun x H3 hy => ?_⟩
    have hdi : ds[i]? = some ds[i] := List.getElem?_eq_getElem hlast
    obtain ⟨F3, sF3, sH3, s3⟩ := wk.yld i H2 x H3 F2 _ _ sF2 s2 hdi hy
    rw [List.drop_eq_getElem_cons hlast] at er2
    unfold evalComp at er2
    have hlw2 : (wipe σ own).length = X.N.length := by rw [wipe_length, hn]
    cases e1 : tgE t (.z ds[i]) env2 with
    | none => rw [e1] at er2; subst er2; exact False.elim post
    | some env3 =>
      rw [e1] at er2
      have s3' : Hs X.K FA w F3 H3 ((some x, .z ds[i]) :: (lv (wipe σ own) env2 ++ ((some (.ref D), .l acc) :: (hid σ env1 own ++ ts)))) := by
        refine s3.perm (List.Perm.cons _ ?_)
        exact List.perm_middle.symm
      refine ⟨hlw2, F3, _, env2, _, by rw [hl2, wipe_length], s3', env3, e1, fun σ2 bs hl3 s4 => ?_⟩
      have ew : wipe σ2 own = wipe σ own := wipe_beside bs hin
      have hl2' : σ2.length = σ.length := by rw [bs.1, wipe_length]
      refine ⟨ew, F3, _, env3, hl3, s4, ?_⟩
      have er2 : ((evalCond C cd env3).nox.bind fun b env2 => match b with
            | .z (.bl true) => if lenOk acc then (evalE C elt env2).nox.bind fun o env3 => evalComp (fun e => evalE C elt e) t (fun e => evalCond C cd e) own (ds.drop (i + 1)) (wipeE env3 own) (acc ++ [o]) else .no
            | .z (.bl false) => evalComp (fun e => evalE C elt e) t (fun e => evalCond C cd e) own (ds.drop (i + 1)) (wipeE env2 own) acc
            | _ => .no) = rr := er2
      cases e2 : evalCond C cd env3 with
      | no => rw [e2] at er2; subst er2; exact False.elim post
      | ex c ds => rw [e2] at er2; subst er2; exact False.elim post
      | ok o env4 =>
        rw [e2] at er2
        intro vb H4 F4 hl4 s5 sF4 p4
        cases o with
        | l _ => subst er2; exact False.elim post
        | t _ => subst er2; exact False.elim post
        | z d =>
        cases d with
        | bl b =>
          have ev := RepV.bl (.rep s5.rep : RepV X.K FA F4 H4 vb _)
          subst ev
          cases b with
          | true =>
          have er2 : (if lenOk acc then (evalE C elt env4).nox.bind fun o env3 => evalComp (fun e => evalE C elt e) t (fun e => evalCond C cd e) own (ds.drop (i + 1)) (wipeE env3 own) (acc ++ [o]) else .no) = rr := er2
          refine ⟨true, rfl, iteT ?_⟩
          split at er2
          · rename_i hlen
            refine ⟨F4, _, env4, hl4, s5.tail, ?_⟩
            cases e3 : evalE C elt env4 with
            | no => rw [e3] at er2; subst er2; exact False.elim post
            | ex c ds => rw [e3] at er2; subst er2; exact False.elim post
            | ok oo env5 =>
              rw [e3] at er2
              intro y H5 F5 hl5 s6 sF5 p5
              have s7 : Hs X.K FA w F5 H5 ((some (.ref D), .l acc) :: (some y, oo) :: (lv σ2 env5 ++ (hid σ env1 own ++ ts))) := s6.swapTemp
              obtain ⟨a', vs', ea, hv5, hvl⟩ := s7.own
              obtain rfl : D = a' := V.ref.inj ea
              refine ⟨vs', hv5, ?_, by omega, by omega, F5, wipeE env5 own, acc ++ [oo], vs' ++ [y], ((sF2.trans sF3).trans sF4).trans sF5, by rw [wipeE_len, hl5, hl2'], fun j m => getE_wipe m, ?_, upd_same, er2, fun z => ?_⟩
              · rw [hvl]
                have := of_decide_eq_true (show decide (acc.length < 2 ^ 20) = true from hlen)
                have e24 : (sizeLine : Nat) = 2 ^ 24 := rfl
                omega
              · have s8 := Hs.append hv5 s7
                have s9 := s8.toTemp.wipe (is := own) hl5
                rw [ew] at s9
                exact s9.ofTemp
              · have z' := Bool.and_eq_true_iff.mp z
                obtain ⟨q1, A, q2, q3⟩ := p2 z
                obtain ⟨q4, q5⟩ := p4 z'.2
                obtain ⟨q6, B, q7, q8⟩ := p5 z'.1
                have sb : Sub H2 H5 := (sH3.trans q4).trans q6
                -- what is in the new list stood as it was but for the list itself
                have ev : vs' = vs := by
                  have := sb _ _ hv2
                  rw [hv5] at this
                  cases this; rfl
                subst ev
                have hA : RepOs X.K FA F5 (upd H5 D (.lst (vs' ++ [y]))) vs' acc A := by
                  have a1 : RepOs X.K FA F5 H5 vs' acc A := q2.frame ((sF3.trans sF4).trans sF5) (fun a m => by
                    obtain ⟨xs, e⟩ := q2.dom a m
                    rw [e]; exact sb _ _ e) sb.tups
                  refine a1.frame (Sub.refl _) (fun a m => upd_ne fun e => ?_) (fun a xs e => ?_)
                  · subst e
                    obtain ⟨hr, C', rC, nd, _⟩ := s7
                    cases rC with
                    | cons h1 r1 =>
                      cases h1 with
                      | l h2 r2 =>
                        rw [hv5] at h2; cases h2
                        have := a1.uniq r2
                        subst this
                        exact (List.nodup_cons.mp nd).1 (List.mem_append_left _ m)
                  · by_cases z : a = D
                    · subst z; rw [hv5] at e; cases e
                    · rw [upd_ne z]; exact e
                have hB : RepO X.K FA F5 (upd H5 D (.lst (vs' ++ [y]))) y oo B := by
                  refine q7.frame (Sub.refl _) (fun a m => upd_ne fun e => ?_) (fun a xs e => ?_)
                  · subst e
                    have := q8 a m
                    rw [(sH3.trans q4) _ _ hv2] at this
                    cases this
                  · by_cases z : a = D
                    · subst z; rw [hv5] at e; cases e
                    · rw [upd_ne z]; exact e
                refine ⟨fun a ob e => ?_, A ++ (B ++ []), hA.append (RepOs.cons hB .nil), fun a m => ?_⟩
                · have : a ≠ D := fun z => by rw [z, hD] at e; cases e
                  rw [upd_ne this]; exact sb _ _ (q1 _ _ e)
                · rcases List.mem_append.mp m with m | m
                  · exact q3 a m
                  · rw [List.append_nil] at m
                    have n4 := q8 a m
                    cases e : H1 a with
                    | none => rfl
                    | some ob => rw [(sH3.trans q4) _ _ (q1 _ _ e)] at n4; cases n4
          · subst er2; exact False.elim post
          | false =>
          have er2 : evalComp (fun e => evalE C elt e) t (fun e => evalCond C cd e) own (ds.drop (i + 1)) (wipeE env4 own) acc = rr := er2
          refine ⟨false, rfl, iteF ⟨rfl, by omega, F4, wipeE env4 own, acc, ?_⟩⟩
          have s6 : Hs X.K FA w F4 H4 (lv σ2 env4 ++ ((some (.ref D), .l acc) :: (hid σ env1 own ++ ts))) := s5.tail
          obtain ⟨a', vs', ea, hv4, hvl⟩ := s6.ofTemp.own
          obtain rfl : D = a' := V.ref.inj ea
          have s7 := s6.wipe (is := own) hl4
          rw [ew] at s7
          refine ⟨vs', (sF2.trans sF3).trans sF4, by rw [wipeE_len, hl4, hl2'], fun j m => getE_wipe m, s7.ofTemp, hv4, er2, fun z => ?_⟩
          have z' := Bool.and_eq_true_iff.mp z
          obtain ⟨q1, A, q2, q3⟩ := p2 z
          obtain ⟨q4, q5⟩ := p4 z'.2
          have sb : Sub H2 H4 := sH3.trans q4
          have ev : vs' = vs := by
            have := sb _ _ hv2
            rw [hv4] at this
            cases this; rfl
          subst ev
          exact ⟨q1.trans sb, A, q2.frame (sF3.trans sF4) (fun a m => by
            obtain ⟨xs, e⟩ := q2.dom a m
            rw [e]; exact sb _ _ e) sb.tups, q3⟩
        | _ => subst er2; exact False.elim post
  · -- the end
    left
    refine ⟨wk.stop i H2 F2 sF2 s2.1.sub (by omega), ?_⟩
    have e0 : ds.drop i = [] := List.drop_eq_nil_iff.mpr (by omega)
    rw [e0] at er2
    unfold evalComp at er2
    subst er2
    have s3 : Hs X.K FA w F2 H2 (lv (wipe σ own) env2 ++ (hid σ env1 own ++ ((some (.ref D), .l acc) :: ts))) := by
      refine s2.perm ?_
      refine List.Perm.trans (List.perm_middle.symm) ?_
      exact (List.perm_middle.symm).append_left _
    have s4 := s3.unhide hnd hl1 (hl2.trans rfl) hn2 (fun j m o e => (s1.slots hl1) j o e)
    have s5 := s4.ofTemp
    have hl4 : (restore env1 env2 own).length = σ.length := by rw [restore_len, hl2]
    have post : okE X.K FA w (pureX (.comp elt t it cd own)) σ F H ts Q (.l acc) (if ((pureX elt && pureIt it) && pureXo cd) && O.cleans acc then env else restore env1 env2 own) := post
    have fr : (pureX elt && pureXo cd) = true → Sub H1 H2 ∧ Fresh X.K FA F2 H1 H2 (.ref D) (.l acc) := fun z => by
      obtain ⟨q1, A, q2, q3⟩ := p2 z
      refine ⟨q1, D :: A, .l hv2 q2, fun a m => ?_⟩
      rcases List.mem_cons.mp m with e | m
      · rw [e]; exact hD
      · exact q3 a m
    split at post
    · rename_i hz
      have hz' := Bool.and_eq_true_iff.mp hz
      have z2 := pp hz'.1
      have z3 := Bool.and_eq_true_iff.mp z2.1
      obtain ⟨q1, q2⟩ := fr (by rw [z3.1, z2.2]; rfl)
      have sH := (p1 z3.2).trans q1
      obtain ⟨F5, sF5, fr5, s6⟩ := Hs.restore s0 s5 sH (sF1.trans sF2) (q2.weak (p1 z3.2)) (by simpa [O.clean] using hz'.2)
      exact post _ H2 F5 hl s6 sF5 fun _ => ⟨sH, fr5⟩
    · refine post _ H2 F2 hl4 s5 (sF1.trans sF2) fun z => ?_
      have z2 := pp z
      have z3 := Bool.and_eq_true_iff.mp z2.1
      obtain ⟨q1, q2⟩ := fr (by rw [z3.1, z2.2]; rfl)
      exact ⟨(p1 z3.2).trans q1, q2.weak (p1 z3.2)⟩
theorem c_comp {elt : RF.X} {t : Tg} {it : RF.It} {cd : Xo} {own : List Nat} {u tg iu : Expr} {ifs : List Expr} {sc' : Scope} {pos : Pos} (c : Cok Nm FA CA C X W) (r : ScR X sc)
    (hb : BlkOk X.N X.env.scope sc' (ownOf X.N own)) (hnd : own.Nodup) (hin : ∀ i ∈ tgSlots t, i ∈ own) (hlt : ∀ i ∈ own, i < X.N.length) (hf : ∀ x, foldedSetIterable iu X.env x = pure x)
    (hi : PI X tg iu (tIt X.K FA CA W w C it)) (hg : ∀ s H cenv fp, (∃ C' cl, cenv = compEnvC sc' cl C' X.env) → L2.PG (X.blk s H sc' cenv fp) tg (tTg' X.K FA w X.N.length t))
    (ht : ∀ s H cenv fp, (∃ C' cl, cenv = compEnvC sc' cl C' X.env) → PTs (X.blk s H sc' cenv fp) ifs (tCond X.K FA CA w C cd)) (he : ∀ s H cenv fp, (∃ C' cl, cenv = compEnvC sc' cl C' X.env) → PE (X.blk s H sc' cenv fp) u (tE X.K FA CA WF w C elt))
    (hσ : ∀ pins s σ H, L2.Inv X pins σ H s → σ.length = X.N.length) : PE X (.ListComp u [⟨tg, iu, ifs, 0⟩] sc' pos) (tE X.K FA CA W w C (.comp elt t it cd own)) := by
  have key := @i_comp FA CA C X W w elt t it cd own hnd hin
  have eo : (ownOf X.N own).map (·.2) = own := by
    unfold ownOf
    rw [List.map_map]
    exact List.map_id' _
  refine ⟨fun pins s σ H Q I h => ?_⟩
  refine (pe_lc c.calm c.nd hi hb (fun s H C' cl fp => hg s H _ fp ⟨C', cl, rfl⟩) (fun s H C' cl fp => ht s H _ fp ⟨C', cl, rfl⟩) (fun s H C' cl fp => he s H _ fp ⟨C', cl, rfl⟩) hf).run pins s σ H Q I ?_
  rw [eo]
  exact key σ H Q (hσ _ _ _ _ I) h
end
end RF
/-! RFo: pops; conditions. -/
namespace RF
open L2 PySem PySem.Spec PyProof.Rows
section
variable {Nm : Names} {FA : Fns} {CA : Nat → Option Addr} {C : Cfg} {X : Cx} {W : WX} {w : W0} {sc : Scope}
variable {σ : L2.St} {F F' F1 H H' H1 : Hp} {ts : List (Option V × O)} {Q Q1 : VK} {pu pu1 fl : Bool}
theorem c_pop {i : Nat} {x m : Str} {px p pos : Pos} (r : ScR X sc) (hv : visB X.N sc i x = true) (hm : (m == "pop") = true) (hl : (p.endLine == pos.line) = true) :
    PE X (.Call (.Attribute (.Name x px) m p) [] [] pos) (tE X.K FA CA W w C (.pop i)) := by
  obtain rfl : m = "pop" := by simpa using hm
  refine PE.imp (pe_bm0 (T := "list") PySem.F.plainAttrs_list PySem.F.slot_list_pop PySem.F.type_list_pop mt_pop (pe_slot r hv) (by rfl) hl) fun σ H Q ⟨F, ts, env, hl, s, post⟩ => ?_
  unfold evalE at post
  cases e : getE env i with
  | none => rw [e] at post; exact False.elim post
  | some o =>
    rw [e] at post
    cases o with
    | z d => exact False.elim post
    | t os => exact False.elim post
    | l os =>
      have post : Post X.K FA CA W w (pureX (.pop i)) σ F H ts Q (match os[os.length - 1]? with | some o => .ok o (env.set i (some (.l os.dropLast))) | none => .no) := post
      cases e2 : os[os.length - 1]? with
      | none => rw [e2] at post; exact False.elim post
      | some o =>
        rw [e2] at post
        obtain ⟨v, e1, s1⟩ := s.take hl e
        obtain ⟨a, vs, rfl, hv, hvl⟩ := s1.own
        obtain ⟨y, e3, s2⟩ := s1.erase hv e2
        refine ⟨_, e1, Or.inl ⟨rfl, _, Or.inl (Or.inl hv)⟩, a, vs, y, rfl, rfl, hv, by rw [hvl]; exact e3, ?_⟩
        rw [PyProof.Rows.Copied.eraseIdx_last, ← hvl, PyProof.Rows.Copied.eraseIdx_last] at s2
        have s3 := s2.perm ((List.Perm.swap _ _ _).trans (List.Perm.cons _ List.perm_middle.symm))
        have s4 := (Hs.back hl e1 s3).ofTemp
        exact post y _ F (by rw [List.length_set]; exact hl) s4 (Sub.refl _) fun z => nomatch (show false = true from z)
theorem c_popAt {i : Nat} {k : RF.X} {u : Expr} {x m : Str} {px p pos : Pos} (r : ScR X sc) (hv : visB X.N sc i x = true) (hm : (m == "pop") = true) (hl : (p.endLine == pos.line) = true) (hi : isE Nm X.N k sc u = true) (hk : PE X u (tE X.K FA CA W w C k)) :
    PE X (.Call (.Attribute (.Name x px) m p) [u] [] pos) (tE X.K FA CA W w C (.popAt i k)) := by
  obtain rfl : m = "pop" := by simpa using hm
  refine PE.imp (pe_bm (T := "list") PySem.F.plainAttrs_list PySem.F.slot_list_pop PySem.F.type_list_pop mt_popAt (pe_slot r hv) (pa_cons hk pa_nil (star_cons hi)) (by rfl) (by rw [star_cons hi]; rfl) hl (star_cons hi) (by rfl)) fun σ H Q ⟨F, ts, env, hl, s, post⟩ => ?_
  unfold evalE at post
  cases e : getE env i with
  | none => rw [e] at post; exact False.elim post
  | some o =>
    rw [e] at post
    cases o with
    | z d => exact False.elim post
    | t os => exact False.elim post
    | l os0 =>
      obtain ⟨v, e1, s1⟩ := s.take hl e
      obtain ⟨a, vs0, rfl, hv0, hvl0⟩ := s1.own
      refine ⟨_, e1, Or.inl ⟨rfl, _, Or.inl (Or.inl hv0)⟩, F, ts, env, hl, s, ?_⟩
      refine bindE post fun o env1 x H1 F1 _ hl1 s1 sF1 p1 post => ?_
      have post := post.rebase sF1 (H1 := H1) fun z => nomatch (show false = true from z)
      cases o with
      | l _ => exact False.elim post
      | t _ => exact False.elim post
      | z d =>
      cases d with
      | int j =>
        have ev := RepV.int (.rep s1.rep : RepV X.K FA F1 H1 x _)
        subst ev
        cases e2 : getE env1 i with
        | none => rw [e2] at post; exact False.elim post
        | some o =>
          rw [e2] at post
          cases o with
          | z d => exact False.elim post
          | t os => exact False.elim post
          | l os =>
            have post : Post X.K FA CA W w (pureX (.popAt i k)) σ F1 H1 ts Q (match (if lenOk os then L2.ixN os.length j else none) with | some q => (match os[q]? with | some o => .ok o (env1.set i (some (.l (os.eraseIdx q)))) | none => .no) | none => .no) := post
            have hlen : lenOk os = true ∨ lenOk os = false := by cases lenOk os <;> simp
            rcases hlen with hlen | hlen
            rotate_left
            · rw [hlen] at post; exact False.elim post
            rw [hlen] at post
            have post : Post X.K FA CA W w (pureX (.popAt i k)) σ F1 H1 ts Q (match L2.ixN os.length j with | some q => (match os[q]? with | some o => .ok o (env1.set i (some (.l (os.eraseIdx q)))) | none => .no) | none => .no) := post
            have hlen2 : os.length < 2 ^ 20 := of_decide_eq_true (show decide (os.length < 2 ^ 20) = true from hlen)
            cases e3 : L2.ixN os.length j with
            | none => rw [e3] at post; exact False.elim post
            | some q =>
              rw [e3] at post
              have post : Post X.K FA CA W w (pureX (.popAt i k)) σ F1 H1 ts Q (match os[q]? with | some o => .ok o (env1.set i (some (.l (os.eraseIdx q)))) | none => .no) := post
              cases e4 : os[q]? with
              | none => rw [e4] at post; exact False.elim post
              | some o =>
                rw [e4] at post
                obtain ⟨v, e5, s2⟩ := s1.tail.take hl1 e2
                rw [e1] at e5
                obtain rfl : V.ref a = v := by simpa using e5
                obtain ⟨a', vs, ea, hv, hvl⟩ := s2.own
                cases ea
                obtain ⟨y, e6, s3⟩ := s2.erase hv e4
                obtain ⟨q1, q2, q3, q4⟩ := ixN_seq e3
                refine ⟨a, vs, j, q, y, rfl, rfl, hv, by omega, by omega, by rw [hvl]; exact q1, e6, ?_⟩
                have s4 := s3.perm ((List.Perm.swap _ _ _).trans (List.Perm.cons _ List.perm_middle.symm))
                have s5 := (Hs.back hl1 e1 s4).ofTemp
                exact post y _ F1 (by rw [List.length_set]; exact hl1) s5 (Sub.refl _) fun z => nomatch (show false = true from z)
      | _ => exact False.elim post
/-! ### a lambda is made -/
theorem clo_nil {cells : List (Str × Addr)} : ∀ {names : List (Str × NameKind)} {acc : List (Str × Addr)}, (∀ y ∈ names, y.2 ≠ .free) → cloFrom cells names acc = acc
  | [], _, _ => rfl
  | (n, k) :: r, acc, h => by
    have hk : ¬ (k == NameKind.free) = true := fun z => h (n, k) List.mem_cons_self (by simpa using z)
    unfold cloFrom
    rw [if_neg hk]
    exact clo_nil fun y m => h y (List.mem_cons_of_mem _ m)
theorem track_lam {pins : List (Addr × Obj)} {s : Shared} {L : LamD} {d : Addr} {pm ctv : Value} {t' : Nat} (I : Inv X pins σ H s) :
    Inv X pins σ (upd H s.heap.objs.size (LamO s.heap.objs.size d L pm ctv)) { s with heap := s.heap.push { cls := .type "function", data := .func (L.fd d pm ctv) }, toks := t' } := by
  have e : (s.heap.push ({ cls := .type "function", data := .func (L.fd d pm ctv) } : Obj)).get? s.heap.objs.size = some ({ cls := .type "function", data := .func (L.fd d pm ctv) } : Obj) := Heap.get?_push_size _ rfl
  exact I.laid (fun b u q => Heap.get?_push_of_some _ q) (Nat.le_refl _) ⟨⟨_, _, e⟩, ⟨_, e⟩, fun h1 h2 ⟨od, sl, z⟩ st => ⟨od, sl, st _ z⟩⟩
theorem lam_mk {pins : List (Addr × Obj)} {s : Shared} {T : List (Addr × Str)} {c P : Addr} {L : LamD} {pos : Pos} {E : Value → Shared → Prop} {Qv : Value → Shared → Prop} (I : Inv X pins σ H s) (tb : LamX.TabB X.base X.mg c P) (ec : X.env.code = .ref c)
    (hq : L.qual = X.env.qual ++ "<lambda>") (mem : (P, L.qual) ∈ T) (one : ∀ p ∈ T, p.1 = P → p.2 = L.qual) (tT : LamX.Tabs T H) (hd : defaultsOf L.params X.env = ([], [])) (nf : ∀ y ∈ L.scope.names, y.2 ≠ .free)
    (k : ∀ f d pm ctv H1 s', Inv X pins σ H1 s' → (∀ b, b ≠ f → b ≠ d → b ≠ P → H1 b = H b) → LamX.Tabs T H1 → (∃ ps, H P = some (.tbl ps)) → H f = none → H1 f = some (LamO f d L pm ctv) → H1 d = some (LamX.CodeO d L.qual) → (H d = none ∨ H d = H1 d) → f ≠ d → Qv (.ref f) s') :
    wpAny (model X.prog X.w) X.A (eval (.Lambda L.params L.body L.scope pos) X.env) Qv E s := by
  obtain ⟨ps, tP, tr, tc⟩ := tT _ mem
  have clos : closureFor L.scope X.env = pure [] := by
    rw [closure_ok (env := X.env) (scope := L.scope) fun y m e => absurd e (nf y m), clo_nil nf]
  have objP : s.heap.get? P = some { cls := .none, data := .fields ps } := I.hok P _ tP
  refine PySem.W.kla_eval hd ?_
  rw [← hq]
  cases look : codeAmong pos ps.toList with
  | some cv =>
    obtain ⟨d, rfl, ed⟩ := tc pos cv look
    refine PySem.W.kla_makeFunctionHit (mg := X.mg) (c := c) (P := P) (ps := ps) clos I.ok.glob (I.mod.glob.keeps I.bk) ec (tb.code.keeps I.bk) objP tr look (tb.bm.keeps I.bk) fun ctv h' tk keep size => ?_
    have I1 : Inv X pins σ H { s with heap := h', toks := tk } := I.kept keep
    have new : H h'.objs.size = none := I1.hok.fresh (Nat.le_refl _)
    have I2 := track_lam (L := L) (d := d) (pm := (X.mg "__name__").getD .none) (ctv := ctv) (t' := tk) I1
    have nd : d ≠ h'.objs.size := ne_of_none ed new
    have old : ∀ b o, H b = some o → upd H h'.objs.size (LamO h'.objs.size d L ((X.mg "__name__").getD .none) ctv) b = some o := fun b o e => by rw [upd_ne (ne_of_none e new)]; exact e
    exact k h'.objs.size d _ ctv _ _ I2 (fun b z _ _ => upd_ne z) (tT.ext old) ⟨ps, tP⟩ new upd_same (old _ _ ed) (.inr (by rw [ed, old _ _ ed])) (Ne.symm nd)
  | none =>
    refine PySem.W.kla_makeFunction (mg := X.mg) (c := c) (P := P) (ps := ps) clos I.ok.glob (I.mod.glob.keeps I.bk) ec (tb.code.keeps I.bk) objP tr look tb.gP (tb.bm.keeps I.bk) fun d ctv h' tk keep ge lt rec tab => ?_
    obtain ⟨d2, oc, vs, t, e2, o1, o2, o3⟩ := rec
    cases e2
    have newD : H d = none := I.hok.fresh ge
    have I1 := LamX.inv_table (t' := tk) (more := #[rawInt pos.line, rawInt pos.col, .ref d]) (h' := h') I tP (fun b o z e => keep b o z e) tab ge ⟨oc, vs, t, o1, o2, o3⟩
    have newF := I1.hok.fresh (a := h'.objs.size) (Nat.le_refl _)
    have I2 := track_lam (L := L) (d := d) (pm := (X.mg "__name__").getD .none) (ctv := ctv) (t' := tk) I1
    have nPd : P ≠ d := ne_of_none tP newD
    have nfd : h'.objs.size ≠ d := Nat.ne_of_gt lt
    generalize hH1 : upd (upd H P (.tbl (ps ++ #[rawInt pos.line, rawInt pos.col, .ref d]))) d (LamX.CodeO d L.qual) = H1 at I1 newF I2
    have atD : H1 d = some (LamX.CodeO d L.qual) := by rw [← hH1]; exact upd_same
    have atP : H1 P = some (.tbl (ps ++ #[rawInt pos.line, rawInt pos.col, .ref d])) := by rw [← hH1, upd_ne nPd]; exact upd_same
    have rest : ∀ b, b ≠ d → b ≠ P → H1 b = H b := fun b z1 z2 => by rw [← hH1, upd_ne z1, upd_ne z2]
    have keepN : ∀ b o, H b = some o → (∀ ps, o ≠ .tbl ps) → H1 b = some o := fun b o e n => by
      rw [rest b (ne_of_none e newD) (fun z => by rw [z, tP] at e; cases e; exact n _ rfl)]; exact e
    have old : ∀ b o, H1 b = some o → upd H1 h'.objs.size (LamO h'.objs.size d L ((X.mg "__name__").getD .none) ctv) b = some o := fun b o e => by rw [upd_ne (ne_of_none e newF)]; exact e
    have newF0 : H h'.objs.size = none := I.hok.fresh (Nat.le_trans ge (Nat.le_of_lt lt))
    have T1 : LamX.Tabs T H1 := fun p hp => by
      by_cases z : p.1 = P
      · have eL : (ps ++ #[rawInt pos.line, rawInt pos.col, .ref d]).toList = ps.toList ++ [rawInt pos.line, rawInt pos.col, .ref d] := by simp
        rw [z, one p hp z]
        refine ⟨_, atP, by rw [eL]; exact PySem.TriplesOk_snoc _ _ _ _ tr, fun p' cv hcv => ?_⟩
        rw [eL] at hcv
        rcases LamX.among_app _ tr hcv with y | y
        · obtain ⟨c0, y1, y2⟩ := tc p' cv y
          exact ⟨c0, y1, keepN _ _ y2 LamX.codeO_ne⟩
        · exact ⟨d, y, atD⟩
      · obtain ⟨ps', y1, y2, y3⟩ := tT p hp
        refine ⟨ps', by rw [rest _ (ne_of_none y1 newD) z]; exact y1, y2, fun p' cv hcv => ?_⟩
        obtain ⟨c0, x1, x2⟩ := y3 p' cv hcv
        exact ⟨c0, x1, keepN _ _ x2 LamX.codeO_ne⟩
    exact k h'.objs.size d _ ctv _ _ I2 (fun b z1 z2 z3 => by rw [upd_ne z1, rest b z2 z3]) (T1.ext old) ⟨ps, tP⟩ newF0 upd_same (old _ _ atD) (.inl newD) nfd
theorem c_lam {k : Nat} {params : Arguments} {body : Expr} {scope : Scope} {pos : Pos} (m : MkOk Nm FA X w) (hk : Nm.lamB k params scope body = true) : PE X (.Lambda params body scope pos) (tE X.K FA CA W w C (.lam k [])) := by
  refine ⟨fun pins s σ H Q I h => ?_⟩
  obtain ⟨F, ts, env, hl, s0, post⟩ := h
  unfold evalE at post
  obtain ⟨c, P, ec, tb, m1, m2, m3⟩ := m.tab
  obtain ⟨l1, l2, l3⟩ := m.ml k params scope body hk
  have hr := s0.1
  refine lam_mk (L := ⟨X.env.qual ++ "<lambda>", params, body, scope⟩) I tb ec rfl m1 m2 hr.tabs (l3 _) l2 fun f d pm ctv H1 s' I1 rest T1 ⟨ps, tP⟩ nF eF eD oD nfd => ?_
  have post : Post X.K FA CA W w (pureX (.lam k [])) σ F H ts Q (.ok (.z (.clo k [])) env) := post
  have Ff : F f = none := by
    cases e : F f with
    | none => rfl
    | some o => rw [hr.sub _ _ e] at nF; cases nF
  have Fd : ∀ o, F d = some o → o = LamX.CodeO d (X.env.qual ++ "<lambda>") := fun o e => by
    have e1 := hr.sub _ _ e
    rcases oD with z | z
    · rw [z] at e1; cases e1
    · rw [z, eD] at e1; exact (Option.some.inj e1).symm
  have nP : ∀ b o, H b = some o → (∀ ps, o ≠ .tbl ps) → b ≠ P := fun b o e n z => by rw [z, tP] at e; cases e; exact n _ rfl
  have old : ∀ b o, H b = some o → (∀ ps, o ≠ .tbl ps) → H1 b = some o := fun b o e n => by
    by_cases z : b = d
    · rcases oD with y | y
      · rw [z, y] at e; cases e
      · rw [z] at e ⊢; rw [← y]; exact e
    · rw [rest b (ne_of_none e nF) z (nP b o e n)]; exact e
  let F1 : Hp := upd (upd F d (LamX.CodeO d (X.env.qual ++ "<lambda>"))) f (LamO f d ⟨X.env.qual ++ "<lambda>", params, body, scope⟩ pm ctv)
  have F1f : F1 f = some (LamO f d ⟨X.env.qual ++ "<lambda>", params, body, scope⟩ pm ctv) := upd_same
  have F1d : F1 d = some (LamX.CodeO d (X.env.qual ++ "<lambda>")) := by show upd (upd F d _) f _ d = _; rw [upd_ne (Ne.symm nfd)]; exact upd_same
  have F1o : ∀ b, b ≠ f → b ≠ d → F1 b = F b := fun b z1 z2 => by show upd (upd F d _) f _ b = _; rw [upd_ne z1, upd_ne z2]
  have sF : Sub F F1 := fun b o e => by
    by_cases z1 : b = f
    · rw [z1, Ff] at e; cases e
    · by_cases z2 : b = d
      · rw [z2] at e ⊢; rw [F1d, Fd o e]
      · rw [F1o b z1 z2]; exact e
  have lamN : ∀ xs, LamO f d ⟨X.env.qual ++ "<lambda>", params, body, scope⟩ pm ctv ≠ .lst xs := fun xs z => by unfold LamO at z; cases z
  have codN : ∀ xs, LamX.CodeO d (X.env.qual ++ "<lambda>") ≠ .lst xs := fun xs z => by unfold LamX.CodeO at z; cases z
  have codT : ∀ xs, LamX.CodeO d (X.env.qual ++ "<lambda>") ≠ .tup xs := fun xs z => by unfold LamX.CodeO at z; cases z
  have lamT : ∀ xs, LamO f d ⟨X.env.qual ++ "<lambda>", params, body, scope⟩ pm ctv ≠ .tup xs := fun xs z => by unfold LamO at z; cases z
  have lamB : ∀ xs, LamO f d ⟨X.env.qual ++ "<lambda>", params, body, scope⟩ pm ctv ≠ .tbl xs := fun xs z => by unfold LamO at z; cases z
  obtain ⟨psP, eP, _⟩ := T1 _ m1
  have hr1 : HR w F1 H1 := by
    refine ⟨fun b o e => ?_, hr.sub0.trans sF, fun b o e => ?_, fun b o e mm => ?_, fun b e => ?_, fun b xs e => ?_, T1, fun b xs e => ?_⟩
    · by_cases z1 : b = f
      · rw [z1] at e ⊢; rw [eF, ← F1f]; exact e
      · by_cases z2 : b = d
        · rw [z2] at e ⊢; rw [eD, ← F1d]; exact e
        · rw [F1o b z1 z2] at e
          exact old b o (hr.sub _ _ e) fun xs z => hr.ntb b xs (by rw [e, z])
    · by_cases z1 : b = f
      · exact .inr (.inl (hr.dom b (by rw [z1]; exact nF)))
      · by_cases z2 : b = d
        · rw [z2] at e ⊢
          rw [F1d] at e
          obtain rfl := Option.some.inj e
          rcases oD with y | y
          · exact .inr (.inl (hr.dom d y))
          · cases q : w.H0 d with
            | none => exact .inr (.inl rfl)
            | some o' =>
              by_cases mm : d ∈ w.M
              · exact .inr (.inr (.inl mm))
              · have e1 := hr.keep d o' q mm
                rw [y, eD] at e1
                exact .inr (.inr (.inr ⟨e1.symm, codN⟩))
        · rw [F1o b z1 z2] at e; exact hr.new b o e
    · have e1 := hr.keep b o e mm
      by_cases z2 : b = d
      · rcases oD with y | y
        · rw [z2, y] at e1; cases e1
        · rw [z2] at e1 ⊢; rw [← y]; exact e1
      · rw [rest b (ne_of_none e1 nF) z2 (fun z => mm (z ▸ m3))]; exact e1
    · refine hr.dom b ?_
      rw [← rest b (fun z => by rw [z, eF] at e; cases e) (fun z => by rw [z, eD] at e; cases e) (fun z => by rw [z, eP] at e; cases e)]
      exact e
    · have z1 : b ≠ f := fun z => by rw [z, eF] at e; exact lamT _ (Option.some.inj e)
      have z2 : b ≠ d := fun z => by rw [z, eD] at e; exact codT _ (Option.some.inj e)
      have z3 : b ≠ P := fun z => by rw [z, eP] at e; cases e
      rw [rest b z1 z2 z3] at e
      exact sF _ _ (hr.tups b xs e)
    · by_cases z1 : b = f
      · rw [z1, F1f] at e; exact lamB _ (Option.some.inj e)
      · by_cases z2 : b = d
        · rw [z2, F1d] at e; exact LamX.codeO_ne _ (Option.some.inj e)
        · rw [F1o b z1 z2] at e; exact hr.ntb b xs e
  have tp : Tups H H1 := fun b xs e => old b _ e fun ps z => by cases z
  have s1 : Hs X.K FA w F1 H1 (lv σ env ++ ts) := by
    obtain ⟨_, A, rA, nd, q⟩ := s0
    refine ⟨hr1, A, rA.frame sF (fun a ma => ?_) tp, nd, fun a ma => ⟨?_, (q a ma).2⟩⟩
    · obtain ⟨xs, e⟩ := rA.dom a ma
      rw [e]; exact old a _ e fun ps z => by cases z
    · obtain ⟨xs, e⟩ := rA.dom a ma
      rw [F1o a (ne_of_none e nF) (fun z => by
        rcases oD with y | y
        · rw [z, y] at e; cases e
        · rw [z, y, eD] at e; exact codN _ (Option.some.inj e))]
      exact (q a ma).1
  exact ⟨.ref f, H1, I1, rfl, post (.ref f) H1 F1 hl (s1.add (.clo l1 F1f F1d)) sF fun z => nomatch (show false = true from z)⟩
end
end RF
/-! RFp: every expression. -/
namespace RF
open L2 PySem PySem.Spec PyProof.Rows
section
variable {Nm : Names} {FA : Fns} {CA : Nat → Option Addr} {C : Cfg} {X : Cx} {W : WX} {w : W0} {sc : Scope}
theorem lookup_rel_free {sc : Scope} : ∀ {names : List (Str × NameKind)} {x : Str}, names.lookup x = some .free →
    (names.map fun (n, k) => if (k == NameKind.free && sc.kind == .function && sc.names.lookup n == some .cell) then (n, NameKind.cell) else (n, k)).lookup x = some .cell ∨
    (names.map fun (n, k) => if (k == NameKind.free && sc.kind == .function && sc.names.lookup n == some .cell) then (n, NameKind.cell) else (n, k)).lookup x = some .free
  | [], _, h => by simp at h
  | (n, k₀) :: r, x, h => by
    have ih := @lookup_rel_free sc r x
    show List.lookup x ((if (k₀ == NameKind.free && sc.kind == .function && sc.names.lookup n == some .cell) = true then (n, NameKind.cell) else (n, k₀)) :: (r.map _)) = some .cell ∨
      List.lookup x ((if (k₀ == NameKind.free && sc.kind == .function && sc.names.lookup n == some .cell) = true then (n, NameKind.cell) else (n, k₀)) :: (r.map _)) = some .free
    cases hx : x == n with
    | true =>
      simp only [List.lookup_cons, hx] at h
      cases h
      by_cases hc : (NameKind.free == NameKind.free && sc.kind == .function && sc.names.lookup n == some .cell) = true
      · rw [if_pos hc]; left; simp only [List.lookup_cons, hx]
      · rw [if_neg hc]; right; simp only [List.lookup_cons, hx]
    | false =>
      simp only [List.lookup_cons, hx] at h
      by_cases hc : (k₀ == NameKind.free && sc.kind == .function && sc.names.lookup n == some .cell) = true
      · rw [if_pos hc]; simp only [List.lookup_cons, hx]; exact ih h
      · rw [if_neg hc]; simp only [List.lookup_cons, hx]; exact ih h
theorem ScR.blk {sc' : Scope} {s : Shared} {H : Hp} {C' : Addr} {cl : List (Str × Addr)} {fp : List Addr} : ScR (X.blk s H sc' (compEnvC sc' cl C' X.env) fp) sc' where
  loc x h := lookup_relabel_local h
  cell x h := ⟨lookup_relS_keep (sc := X.env.scope) (by decide) h, by show (sc'.names.lookup x == some .cell) = true; rw [show sc'.names.lookup x = some .cell from h]; rfl⟩
  free x h := lookup_rel_free (sc := X.env.scope) h
  glob x h := lookup_relS_keep (sc := X.env.scope) (by decide) h
theorem ScM.blk {sc' : Scope} {s : Shared} {H : Hp} {C' : Addr} {cl : List (Str × Addr)} {fp : List Addr} (q : ScM Nm FA X w sc) : ScM Nm FA (X.blk s H sc' (compEnvC sc' cl C' X.env) fp) w sc' where
  toScR := ScR.blk
  mks m := ⟨(q.mks m).tab, (q.mks m).ml⟩
theorem blkOk_sc {sc' : Scope} {own : List (Str × Nat)} {N : List Str} (r : ScR X sc) (h : blkC N sc sc' own = true) : BlkOk N X.env.scope sc' own := by
  have b := blkOk_by h
  refine ⟨b.kind, b.uniq, b.ix, fun y hy e => ?_, b.own⟩
  rcases b.free y hy e with z | z
  · exact .inl (r.cell _ z).1
  · exact r.free _ z
theorem isEs_len {N : List Str} : ∀ {es : Xs} {us : List Expr}, isEs Nm N es sc us = true → xsLen es = us.length
  | .nil, [], _ => rfl
  | .nil, _ :: _, h => by simp [isEs] at h
  | .cons _ _, [], h => by simp [isEs] at h
  | .cons e es, u :: us, h => by
    have h' : isE Nm N e sc u = true ∧ isEs Nm N es sc us = true := by simpa [isEs] using h
    show xsLen es + 1 = us.length + 1
    rw [isEs_len h'.2]
abbrev Both (FA : Fns) (CA : Nat → Option Addr) (C : Cfg) (X : Cx) (W : WX) (w : W0) (m : RF.X) (e : Expr) : Prop := PE X e (tE X.K FA CA W w C m) ∧ PT X e (tTest (tE X.K FA CA W w C m))
theorem i_andX {es : Xs} : ∀ σ H Q, tE X.K FA CA W w C (.and es) σ H Q → tAn X.K FA CA W w C es σ H Q := fun σ H Q ⟨F, ts, env, hl, s, post⟩ => ⟨F, ts, env, hl, s, by unfold evalE at post; exact post⟩
theorem i_orX {es : Xs} : ∀ σ H Q, tE X.K FA CA W w C (.or es) σ H Q → tOr X.K FA CA W w C es σ H Q := fun σ H Q ⟨F, ts, env, hl, s, post⟩ => ⟨F, ts, env, hl, s, by unfold evalE at post; exact post⟩
theorem no_and {us : List Expr} {pos : Pos} : PE X (.BoolOp .And us pos) (tAn X.K FA CA W w C .nil) ∧ PW X (.BoolOp .And us pos) (tTest (tAn X.K FA CA W w C .nil)) :=
  ⟨⟨fun _ _ _ _ _ _ ⟨_, _, _, _, _, post⟩ => by unfold evalAnd at post; exact False.elim post⟩, ⟨fun _ _ _ _ _ _ _ ⟨_, _, _, _, _, post⟩ => by unfold evalAnd at post; exact False.elim post⟩⟩
theorem no_or {us : List Expr} {pos : Pos} : PE X (.BoolOp .Or us pos) (tOr X.K FA CA W w C .nil) ∧ PW X (.BoolOp .Or us pos) (tTest (tOr X.K FA CA W w C .nil)) :=
  ⟨⟨fun _ _ _ _ _ _ ⟨_, _, _, _, _, post⟩ => by unfold evalOr at post; exact False.elim post⟩, ⟨fun _ _ _ _ _ _ _ ⟨_, _, _, _, _, post⟩ => by unfold evalOr at post; exact False.elim post⟩⟩
theorem ands {a b : Bool} (h : (a && b) = true) : a = true ∧ b = true := Bool.and_eq_true_iff.mp h
theorem c_g (c : Cok Nm FA CA C X W) (r : ScR X sc) {f : Nat} {x : Str} {pos : Pos} (hf : Nm.fn f = some x) (hg : glB sc x = true) : PE X (.Name x pos) (tE X.K FA CA W w C (.g f)) := by
  obtain ⟨a, e⟩ := c.has f x hf
  obtain ⟨x', k, fd, e2, e3, e4, _⟩ := c.fns f a e
  rw [hf] at e2; cases e2
  obtain ⟨g1, g2⟩ := glB_ok r hg
  exact c_const (v := .ref a) (pe_glob g1 e3 rfl g2) (fun env => by unfold evalE; rfl) fun F => .fn e
theorem c_gk (c : Cok Nm FA CA C X W) (r : ScR X sc) {j : Nat} {i : Int} {x : Str} {pos : Pos} (hf : Nm.kn j = some (x, i)) (hg : glB sc x = true) : PE X (.Name x pos) (tE X.K FA CA W w C (.gk j i)) := by
  obtain ⟨t, e⟩ := c.kns j x i hf
  obtain ⟨g1, g2⟩ := glB_ok r hg
  exact c_const (v := .int i) (pe_glob g1 e ⟨t, rfl⟩ g2) (fun env => by unfold evalE; rfl) fun F => .int i
theorem c_attr (c : Cok Nm FA CA C X W) (r : ScR X sc) {i : Nat} {x f : Str} {p pos : Pos} (hf : (f == "value") = true) (hv : visB X.N sc i x = true) : PE X (.Attribute (.Name x p) f pos) (tE X.K FA CA W w C (.attr i)) := by
  obtain rfl : f = "value" := by simpa using hf
  refine PE.imp (RX.pe_xk (pe_slot (pos := p) r hv) (by rfl)) fun σ H Q ⟨F, ts, env, hl, s, post⟩ => ?_
  unfold evalE at post
  split at post
  · rename_i k d eg
    obtain ⟨v, e1, rp⟩ := s.slotRep hl eg
    cases rp with
    | exc h1 h2 h3 h4 =>
      obtain ⟨⟨fI, cc, Fn, ini⟩, xf, _⟩ := c.clf _ _ h1
      exact ⟨_, e1, _, _, _, _, _, rfl, s.1.sub _ _ h2, xf, ini.val, s.1.sub _ _ h3, by simp [List.lookup], post.z hl s h4⟩
  · exact False.elim post
theorem c_isc (c : Cok Nm FA CA C X W) (r : ScR X sc) {k i : Nat} {x y z : Str} {p p1 p2 pos : Pos} (hx : (x == "isinstance") = true) (hg : glB sc x = true) (hv : visB X.N sc i y = true) (hk : Nm.cl k = some z) (hgz : glB sc z = true) :
    PE X (.Call (.Name x p) [.Name y p1, .Name z p2] [] pos) (tE X.K FA CA W w C (.isc k i)) := by
  obtain rfl : x = "isinstance" := by simpa using hx
  obtain ⟨g1, g2⟩ := glB_ok r hg
  obtain ⟨z1, z2⟩ := glB_ok r hgz
  obtain ⟨b, hb, mb⟩ := c.cls k z hk
  have pz : PE X (.Name z p2) (tC (.ref b)) := pe_glob z1 mb rfl z2
  refine PE.imp (pe_callB RX.call_isK g1 (c.blt _ (by decide)) boot_isinstance (pa_cons (pe_slot (pos := p1) r hv) (pa_cons pz pa_nil))) fun σ H Q ⟨F, ts, env, hl, s, post⟩ => ?_
  unfold evalE at post
  split at post
  · rename_i j d eg
    obtain ⟨v, e1, rp⟩ := s.slotRep hl eg
    cases rp with
    | exc h1 h2 h3 h4 =>
      have ks := c.isc _ _ _ _ h1 hb
      exact ⟨_, e1, _, _, _, _, .ref b, .ref b, (j == k), rfl, s.1.sub _ _ h2, s.1.sub _ _ h3, (c.clf _ _ h1).ex, fun u q => q, ks, post.z hl s (.bl _)⟩
  · exact False.elim post
theorem seen_ok {i : Nat} {F H : Hp} {ts : List (Option V × O)} {env : Env} {d : D} {env1 : Env} (hl : env.length = σ.length) (s : Hs X.K FA w F H (lv σ env ++ ts)) (e : seen env i = .ok d env1) : env1 = env ∧ ∃ v, σ[i]? = some (some v) ∧ RepV X.K FA F H v d := by
  unfold seen at e
  cases q : getE env i with
  | none => rw [q] at e; cases e
  | some o =>
    rw [q] at e
    cases o with
    | z d' =>
      obtain ⟨v, e1, rp⟩ := s.slotRep hl q
      cases e
      exact ⟨rfl, v, e1, .rep rp⟩
    | l os =>
      obtain ⟨v, e1, s1⟩ := s.take hl q
      obtain ⟨A, ra⟩ := s1.head
      have e : (if (O.l os).flat then R.ok (O.l os).toD env else .no) = .ok d env1 := e
      split at e
      · rename_i hf
        cases e
        exact ⟨rfl, v, e1, ra.viewV s1.1.tups hf⟩
      · cases e
    | t os =>
      obtain ⟨v, e1, s1⟩ := s.take hl q
      obtain ⟨A, ra⟩ := s1.head
      have e : (if (O.t os).flat then R.ok (O.t os).toD env else .no) = .ok d env1 := e
      split at e
      · rename_i hf
        cases e
        exact ⟨rfl, v, e1, ra.viewV s1.1.tups hf⟩
      · cases e
theorem idxI_ok {ds : List D} {k : Int} {j : Nat} (e : idxI ds k = some j) : ∃ ns, ints? ds = some ns ∧ k ∈ ns ∧ j = ns.idxOf k := by
  unfold idxI at e
  cases q : ints? ds with
  | none => rw [q] at e; cases e
  | some ns =>
    rw [q, Option.bind_some] at e
    split at e
    · rename_i hm; cases e; exact ⟨ns, rfl, hm, rfl⟩
    · cases e
theorem idx_first {ns : List Int} {k n : Int} {m : Nat} (h : m < ns.idxOf k) (e : ns[m]? = some n) : n ≠ k := by
  obtain ⟨hl, rfl⟩ := List.getElem?_eq_some_iff.mp e
  unfold List.idxOf at h
  simpa using List.not_of_lt_findIdx h
theorem c_idx (c : Cok Nm FA CA C X W) (r : ScR X sc) {i : Nat} {b : RF.X} {x m : Str} {px p q : Pos} {u : Expr} (hm : (m == "index") = true) (hln : (p.endLine == q.line) = true) (hv : visB X.N sc i x = true) (hi : isE Nm X.N b sc u = true) (hp : pureX b = true) (he : PE X u (tE X.K FA CA W w C b)) :
    PE X (.Call (.Attribute (.Name x px) m p) [u] [] q) (tE X.K FA CA W w C (.idx i b)) := by
  obtain rfl : m = "index" := by simpa using hm
  refine PE.imp (pe_bm (T := "list") PySem.F.plainAttrs_list PySem.F.slot_list_index PySem.F.type_list_index mt_index (pe_slot (pos := px) r hv) (pa_cons he pa_nil (star_cons hi)) (by rfl) (by rw [star_cons hi]; rfl) hln (star_cons hi) (by rfl)) fun σ H Q ⟨F, ts, env, hl, s, post⟩ => ?_
  unfold evalE at post
  cases e0 : seen env i with
  | ex k ds => unfold seen at e0; split at e0 <;> first | cases e0 | (split at e0 <;> cases e0)
  | no => rw [e0] at post; exact False.elim post
  | ok d env1 =>
    obtain ⟨rfl, v, e1, rv⟩ := seen_ok hl s e0
    rw [e0, R.bind_ok] at post
    cases d with
    | lst ds =>
      obtain ⟨a, us, rfl, h1, r1⟩ := rv.lst s.1.sub
      refine ⟨_, e1, .inl ⟨rfl, _, .of h1⟩, F, ts, env1, hl, s, ?_⟩
      refine bindE (pu1 := pureX b) post fun o env2 y H1 F1 _ hl1 s1 sF1 p1 post => ?_
      have post := post.rebase sF1 fun _ => (p1 hp).1
      have rv1 := rv.mono sF1 (p1 hp).1
      cases o with
      | z dk =>
        cases dk with
        | int k' =>
          obtain rfl := RepV.int (.rep s1.rep : RepV X.K FA F1 H1 y _)
          have post : Post X.K FA CA W w (pureX (.idx i b)) σ F1 H1 ts Q (ofOpt ((idxI ds k').map fun j => O.z (.int (j : Nat))) env2) := post
          cases q : idxI ds k' with
          | none => rw [q] at post; exact False.elim post
          | some j =>
            rw [q] at post
            obtain ⟨ns, en, hmem, rfl⟩ := idxI_ok q
            obtain ⟨a2, us2, hv2, h2, r2⟩ := rv1.lst s1.1.sub
            cases hv2
            obtain ⟨rfl, _⟩ := r2.of_ints en
            have hj : ns.idxOf k' < ns.length := List.idxOf_lt_length_of_mem hmem
            refine ⟨a, _, .int k', ns.idxOf k', .int k', rfl, rfl, .of h2, rfl, by simp [flatV], ?_, by simp [eqV], fun m z hlt hz => ?_, post.z hl1 s1.tail (.int _)⟩
            · rw [List.getElem?_map, List.getElem?_eq_getElem hj, List.getElem_idxOf hj]; rfl
            · rw [List.getElem?_map] at hz
              cases hq : ns[m]? with
              | none => rw [hq] at hz; cases hz
              | some n =>
                rw [hq] at hz
                obtain rfl : V.int n = z := by simpa using hz
                have hne : n ≠ k' := idx_first hlt hq
                simp [eqV, hne]
        | _ => exact False.elim post
      | _ => exact False.elim post
    | _ => exact False.elim post
theorem ix1_at {j : Int} {d e : D} {v : V} {H : Hp} {Q : VK} (r : Rep X.K FA H v d) (q : ix1V d j = some e) (h : ∀ u, Rep X.K FA H u e → Q u H) : rIx X.K v (.int j) H Q := by
  unfold ix1V at q
  split at q
  · rename_i ds
    cases r with
    | lst h1 r1 =>
      unfold atI at q
      cases e1 : ixN ds.length j with
      | none => rw [e1] at q; cases q
      | some k =>
        rw [e1] at q
        obtain ⟨u, e2, r2⟩ := r1.get (show ds[k]? = some e from q)
        exact .inl ⟨_, _, j, u, rfl, rfl, .of h1, by unfold atI; rw [r1.length, e1]; exact e2, h u r2⟩
  · rename_i ds
    cases r with
    | tup h1 r1 =>
      unfold atI at q
      cases e1 : ixN ds.length j with
      | none => rw [e1] at q; cases q
      | some k =>
        rw [e1] at q
        obtain ⟨u, e2, r2⟩ := r1.get (show ds[k]? = some e from q)
        exact .inr (.inl ⟨_, _, j, u, rfl, rfl, .of h1, by unfold atI; rw [r1.length, e1]; exact e2, h u r2⟩)
  · cases q
theorem c_ix2 (r : ScR X sc) {i : Nat} {a b : RF.X} {x : Str} {px p1 p2 : Pos} {ka kb : Expr} (hv : visB X.N sc i x = true) (hia : isE Nm X.N a sc ka = true) (hib : isE Nm X.N b sc kb = true) (hpa : pureX a = true) (hpb : pureX b = true)
    (ha : PE X ka (tE X.K FA CA W w C a)) (hb : PE X kb (tE X.K FA CA W w C b)) : PE X (.Subscript (.Subscript (.Name x px) ka p1) kb p2) (tE X.K FA CA W w C (.ix2 i a b)) := by
  refine PE.imp (pe_ix ix_seq (pe_ix ix_seq (pe_slot r hv) ha (plainIx hia)) hb (plainIx hib)) fun σ H Q ⟨F, ts, env, hl, s, post⟩ => ?_
  unfold evalE at post
  cases eg : getE env i with
  | none => rw [eg] at post; exact False.elim post
  | some o =>
    rw [eg] at post
    obtain ⟨v, e1, rv⟩ := s.slotView hl eg
    refine ⟨v, e1, F, ts, env, hl, s, ?_⟩
    refine bindE (pu1 := pureX a) post fun o1 env1 y H1 F1 _ hl1 s1 sF1 q1 post => ?_
    have post := post.rebase sF1 fun _ => (q1 hpa).1
    have rv1 := rv.mono (q1 hpa).1
    cases o1 with
    | z d1 =>
      cases d1 with
      | int j =>
        obtain rfl := RepV.int (.rep s1.rep : RepV X.K FA F1 H1 y _)
        have post : Post X.K FA CA W w (pureX (.ix2 i a b)) σ F1 H1 ts Q (match ix1V o.toD j with
          | some e => (evalE C b env1).bind fun y env2 => match y with
            | .z (.int k) => ofOpt ((ix1L e k).map .z) env2
            | _ => .no
          | none => .no) := post
        cases ei : ix1V o.toD j with
        | none => rw [ei] at post; exact False.elim post
        | some e =>
          rw [ei] at post
          refine ix1_at rv1 ei fun u ru => ⟨F1, ts, env1, hl1, s1.tail, ?_⟩
          refine bindE (pu1 := pureX b) post fun o2 env2 y2 H2 F2 _ hl2 s2 sF2 q2 post => ?_
          have post := post.rebase sF2 fun _ => (q2 hpb).1
          have ru2 := ru.mono (q2 hpb).1
          cases o2 with
          | z d2 =>
            cases d2 with
            | int k =>
              obtain rfl := RepV.int (.rep s2.rep : RepV X.K FA F2 H2 y2 _)
              have post : Post X.K FA CA W w (pureX (.ix2 i a b)) σ F2 H2 ts Q (ofOpt ((ix1L e k).map .z) env2) := post
              cases ek : ix1L e k with
              | none => rw [ek] at post; exact False.elim post
              | some d3 =>
                rw [ek] at post
                unfold ix1L at ek
                cases ej : ix1V e k with
                | none => rw [ej] at ek; cases ek
                | some d4 =>
                  rw [ej, Option.bind_some] at ek
                  split at ek
                  · rename_i hlf
                    cases ek
                    exact ix1_at ru2 ej fun u3 ru3 => post.z hl2 s2.tail (ru3.lf s2.1.tups hlf)
                  · cases ek
            | _ => exact False.elim post
          | _ => exact False.elim post
      | _ => exact False.elim post
    | _ => exact False.elim post
mutual
theorem sE : ∀ (m : RF.X) {X : Cx} {W : WX} {sc : Scope} {e : Expr}, Cok Nm FA CA C X W → ScM Nm FA X w sc → isE Nm X.N m sc e = true → Both FA CA C X W w m e
  | .v i, X, W, sc, e, c, q, h => by
    have r := q.toScR
    unfold isE at h; split at h
    · exact ⟨c_v r h, pt_val (c_v r h)⟩
    · cases h
  | .non, X, W, sc, e, c, q, h => by
    have r := q.toScR
    unfold isE at h; split at h
    · have k : ∀ j pos, PE X (.Constant .none j pos) (tE X.K FA CA W w C .non) := fun j pos => c_const (d := .non) pe_non (fun env => by unfold evalE; rfl) fun F => .non
      exact ⟨k _ _, pt_val (k _ _)⟩
    · cases h
  | .tt b, X, W, sc, e, c, q, h => by
    have r := q.toScR
    unfold isE at h; split at h
    · obtain rfl := eq_of_beq h
      have k : ∀ j pos, PE X (.Constant (.bool b) j pos) (tE X.K FA CA W w C (.tt b)) := fun j pos => c_const (d := .bl b) pe_bl (fun env => by unfold evalE; rfl) fun F => .bl b
      exact ⟨k _ _, pt_val (k _ _)⟩
    · cases h
  | .n i, X, W, sc, e, c, q, h => by
    have r := q.toScR
    unfold isE at h; split at h
    · obtain rfl := of_decide_eq_true h
      have k : ∀ j pos, PE X (.Constant (.int i) j pos) (tE X.K FA CA W w C (.n i)) := fun j pos => c_const (d := .int i) pe_int (fun env => by unfold evalE; rfl) fun F => .int i
      exact ⟨k _ _, pt_val (k _ _)⟩
    · cases h
  | .s x, X, W, sc, e, c, q, h => by
    have r := q.toScR
    unfold isE at h; split at h
    · obtain rfl := of_decide_eq_true h
      have k : ∀ j pos, PE X (.Constant (.str x) j pos) (tE X.K FA CA W w C (.s x)) := fun j pos => c_const (d := .str x) pe_str (fun env => by unfold evalE; rfl) fun F => .str x
      exact ⟨k _ _, pt_val (k _ _)⟩
    · cases h
  | .g f, X, W, sc, e, c, q, h => by
    have r := q.toScR
    unfold isE at h; split at h
    · refine ⟨?k1, pt_val ?k1⟩
      exact c_g c r (of_decide_eq_true (ands h).1) (ands h).2
    · cases h
  | .gk j i, X, W, sc, e, c, q, h => by
    have r := q.toScR
    unfold isE at h; split at h
    · refine ⟨?k2, pt_val ?k2⟩
      exact c_gk c r (of_decide_eq_true (ands h).1) (ands h).2
    · cases h
  | .attr i, X, W, sc, e, c, q, h => by
    have r := q.toScR
    unfold isE at h; split at h
    · refine ⟨?k01, pt_val ?k01⟩
      exact c_attr c r (ands h).1 (ands h).2
    · cases h
  | .isc k i, X, W, sc, e, c, q, h => by
    have r := q.toScR
    unfold isE at h; split at h
    · have h1 := ands h
      have h2 := ands h1.1
      have h3 := ands h2.1
      have h4 := ands h3.1
      refine ⟨?k02, pt_val ?k02⟩
      exact c_isc c r h4.1 h4.2 h3.2 (of_decide_eq_true h2.2) h1.2
    · cases h
  | .idx i b, X, W, sc, e, c, q, h => by
    have r := q.toScR
    unfold isE at h; split at h
    · have h1 := ands h
      have h2 := ands h1.1
      have h3 := ands h2.1
      have h4 := ands h3.1
      refine ⟨?k03, pt_val ?k03⟩
      exact c_idx c r h4.1 h4.2 h3.2 h2.2 h1.2 (sE b c q h2.2).1
    · cases h
  | .ix2 i a b, X, W, sc, e, c, q, h => by
    have r := q.toScR
    unfold isE at h; split at h
    · have h1 := ands h
      have h2 := ands h1.1
      have h3 := ands h2.1
      refine ⟨?k04, pt_val ?k04⟩
      exact c_ix2 r h3.1 h3.2 h2.2 (ands h1.2).1 (ands h1.2).2 (sE a c q h3.2).1 (sE b c q h2.2).1
    · cases h
  | .lam f is, X, W, sc, e, c, q, h => by
    have r := q.toScR
    unfold isE at h; split at h
    · have h1 := ands h
      have h2 := ands h1.1
      have z : is = [] := by simpa using h2.2
      subst z
      refine ⟨?k0, pt_val ?k0⟩
      exact c_lam (q.mks h2.1) h1.2
    · cases h
  | .tup es, X, W, sc, e, c, q, h => by
    have r := q.toScR
    unfold isE at h; split at h
    · refine ⟨?k3, pt_val ?k3⟩
      exact c_tup (sEs es c q (ands h).1).1 (isEs_len (ands h).1) (of_decide_eq_true (ands h).2)
    · cases h
  | .lst es, X, W, sc, e, c, q, h => by
    have r := q.toScR
    unfold isE at h; split at h
    · refine ⟨?k4, pt_val ?k4⟩
      exact c_lst (sEs es c q (ands h).1).1 (isEs_len (ands h).1) (of_decide_eq_true (ands h).2)
    · cases h
  | .bin o a b, X, W, sc, e, c, q, h => by
    have r := q.toScR
    unfold isE at h; split at h
    · have h1 := ands h
      have h2 := ands h1.1
      refine ⟨?k5, pt_val ?k5⟩
      exact c_bin h2.1 (sV r h2.2 (sE a c q h2.2).1) (sV r h1.2 (sE b c q h1.2).1)
    · cases h
  | .neg a, X, W, sc, e, c, q, h => by
    have r := q.toScR
    unfold isE at h; split at h
    · refine ⟨?k6, pt_val ?k6⟩
      exact c_neg (sE a c q h).1
    · cases h
  | .cmp o a b, X, W, sc, e, c, q, h => by
    have r := q.toScR
    unfold isE at h; split at h
    · have h1 := ands h
      have h2 := ands h1.1
      have h3 := ands h2.1
      exact c_cmp c h3.1 h3.2 (sV r h2.2 (sE a c q h2.2).1) (sV r h1.2 (sE b c q h1.2).1)
    · cases h
  | .cmp2 o p a b d, X, W, sc, e, c, q, h => by
    have r := q.toScR
    unfold isE at h; split at h
    · have h1 := ands h
      have h2 := ands h1.1
      have h3 := ands h2.1
      have h4 := ands h3.1
      have h5 := ands h4.1
      exact c_cmp2 c h5.1 h5.2 h4.2 (sV r h3.2 (sE a c q h3.2).1) (sV r h2.2 (sE b c q h2.2).1) (sV r h1.2 (sE d c q h1.2).1)
    · cases h
  | .and es, X, W, sc, e, c, q, h => by
    have r := q.toScR
    unfold isE at h; split at h
    · obtain ⟨k1, k2⟩ := sAnd es c q h
      exact ⟨PE.imp k1 i_andX, PT.imp k2.pt fun _ _ _ h => i_andX _ _ _ h⟩
    · cases h
  | .or es, X, W, sc, e, c, q, h => by
    have r := q.toScR
    unfold isE at h; split at h
    · obtain ⟨k1, k2⟩ := sOr es c q h
      exact ⟨PE.imp k1 i_orX, PT.imp k2.pt fun _ _ _ h => i_orX _ _ _ h⟩
    · cases h
  | .not a, X, W, sc, e, c, q, h => by
    have r := q.toScR
    unfold isE at h; split at h
    · exact c_not (sE a c q h).1 (sE a c q h).2
    · cases h
  | .ite d a b, X, W, sc, e, c, q, h => by
    have r := q.toScR
    unfold isE at h; split at h
    · have h1 := ands h
      have h2 := ands h1.1
      have k0 := sE d c q h2.1
      have k1 := sE a c q h2.2
      have k2 := sE b c q h1.2
      exact ⟨c_ite k0.2 k1.1 k2.1, ct_ite k0.2 k1.2 k2.2⟩
    · cases h
  | .ix a i, X, W, sc, e, c, q, h => by
    have r := q.toScR
    unfold isE at h; split at h
    · have h1 := ands h
      refine ⟨?k7, pt_val ?k7⟩
      exact c_ix h1.2 (sV r h1.1 (sE a c q h1.1).1) (sE i c q h1.2).1
    · cases h
  | .sl a lo hi, X, W, sc, e, c, q, h => by
    have r := q.toScR
    unfold isE at h; split at h
    · have h1 := ands h
      have h2 := ands h1.1
      refine ⟨?k8, pt_val ?k8⟩
      exact c_sl (sV r h2.1 (sE a c q h2.1).1) (sPo lo c q h2.2) (sPo hi c q h1.2)
    · cases h
  | .rev a, X, W, sc, e, c, q, h => by
    have r := q.toScR
    unfold isE at h; split at h
    · refine ⟨?k9, pt_val ?k9⟩
      exact c_rev (sV r h (sE a c q h).1)
    · cases h
  | .call p f es, X, W, sc, e, c, q, h => by
    have r := q.toScR
    unfold isE at h; split at h
    · have h1 := ands h
      have h2 := ands h1.1
      have h3 := ands h2.1
      refine ⟨?k10, pt_val ?k10⟩
      exact c_call c r (of_decide_eq_true h3.1) h3.2 h2.2 h1.2 (sEs es c q h2.2).2.2
    · cases h
  | .callk f es ks perm, X, W, sc, e, c, q, h => by
    have r := q.toScR
    unfold isE at h; split at h
    · have h1 := ands h
      have h2 := ands h1.1
      have h3 := ands h2.1
      have h4 := ands h3.1
      have h5 := ands h4.1
      have h6 := ands h5.1
      have h7 := ands h6.1
      refine ⟨?k11, pt_val ?k11⟩
      exact c_callk c r (of_decide_eq_true h7.1) h7.2 h6.2 h5.2 h4.2 h3.2 (by simpa using h1.2) (isEs_len h6.2) (sEs es c q h6.2).1 (sKs ks c q h5.2)
    · cases h
  | .callv i es, X, W, sc, e, c, q, h => by
    have r := q.toScR
    unfold isE at h; split at h
    · have h1 := ands h
      have h2 := ands h1.1
      refine ⟨?k12, pt_val ?k12⟩
      exact c_callv c r h2.1 h2.2 h1.2 (sEs es c q h2.2).2.2
    · cases h
  | .blt b es, X, W, sc, e, c, q, h => by
    have r := q.toScR
    unfold isE at h; split at h
    · have h1 := ands h
      have h2 := ands h1.1
      have k := sBlt b es c q h2.1 h2.2 h1.2
      exact ⟨k _ _, pt_val (k _ _)⟩
    · cases h
  | .lrange it, X, W, sc, e, c, q, h => by
    have r := q.toScR
    unfold isE at h; split at h
    · have h1 := ands h
      have h2 := ands h1.1
      have h3 := ands h2.1
      have y := sRng it c q
      refine ⟨?k13, pt_val ?k13⟩
      exact c_lrange c r h3.1 h3.2 h1.2 y.1 y.2 (by cases it <;> first | rfl | exact (Bool.false_ne_true h2.2).elim)
    · cases h
  | .isi t a, X, W, sc, e, c, q, h => by
    have r := q.toScR
    unfold isE at h; split at h
    · have h1 := ands h
      have h2 := ands h1.1
      have h3 := ands h2.1
      refine ⟨?k14, pt_val ?k14⟩
      exact c_isi c r h3.1 h3.2 h2.2 h1.2 (sV r h2.2 (sE a c q h2.2).1)
    · cases h
  | .bits a, X, W, sc, e, c, q, h => by
    have r := q.toScR
    unfold isE at h; split at h
    · have h1 := ands h
      have h2 := ands h1.1
      refine ⟨?k15, pt_val ?k15⟩
      exact c_bits h2.1 h2.2 (sE a c q h1.2).1
    · cases h
  | .comp elt t it cd own, X, W, sc, e, c, q, h => by
    have r := q.toScR
    unfold isE at h; split at h
    · have h1 := ands h
      have h2 := ands h1.1
      have h3 := ands h2.1
      have h4 := ands h3.1
      have h5 := ands h4.1
      have h6 := ands h5.1
      have h7 := ands h6.1
      refine ⟨?k16, pt_val ?k16⟩
      exact c_comp c r (blkOk_sc r h7.1) (of_decide_eq_true h6.2) (fun i m => by simpa using List.all_eq_true.mp h5.2 i m)
        (fun i m => of_decide_eq_true (List.all_eq_true.mp h7.2 i m)) (isIt_fold h4.2) (sIt it c q h4.2) (fun s H cenv fp ⟨C', cl, e⟩ => by subst e; exact c_tg (c.blk ..) ScR.blk h3.2)
        (fun s H cenv fp ⟨C', cl, e⟩ => by subst e; exact sIfs cd (c.blk ..) q.blk h2.2) (fun s H cenv fp ⟨C', cl, e⟩ => by subst e; exact (sE elt (c.blk ..) q.blk h1.2).1) (fun pins s σ H I => I.len)
    · cases h
  | .pop i, X, W, sc, e, c, q, h => by
    have r := q.toScR
    unfold isE at h; split at h
    · have h1 := ands h
      have h2 := ands h1.1
      refine ⟨?k17, pt_val ?k17⟩
      exact c_pop r h1.2 h2.1 h2.2
    · cases h
  | .popAt i a, X, W, sc, e, c, q, h => by
    have r := q.toScR
    unfold isE at h; split at h
    · have h1 := ands h
      have h2 := ands h1.1
      have h3 := ands h2.1
      refine ⟨?k18, pt_val ?k18⟩
      exact c_popAt r h2.2 h3.1 h3.2 h1.2 (sE a c q h1.2).1
    · cases h
theorem sEs : ∀ (es : Xs) {X : Cx} {W : WX} {sc : Scope} {us : List Expr}, Cok Nm FA CA C X W → ScM Nm FA X w sc → isEs Nm X.N es sc us = true →
    PA X us (tEs X.K FA CA W w C es) ∧ PA X us (tVs X.K FA CA W w C es) ∧ ∀ ms, PA X us (tAr X.K FA CA W w C ms es)
  | .nil, X, W, sc, us, c, q, h => by
    have r := q.toScR
    cases us with
    | nil => exact ⟨c_nil, c_vnil, fun ms => c_anil⟩
    | cons u us => simp [isEs] at h
  | .cons m es, X, W, sc, us, c, q, h => by
    have r := q.toScR
    cases us with
    | nil => simp [isEs] at h
    | cons u us =>
      have h' : isE Nm X.N m sc u = true ∧ isEs Nm X.N es sc us = true := by simpa [isEs] using h
      have k1 := (sE m c q h'.1).1
      obtain ⟨k2, k3, k4⟩ := sEs es c q h'.2
      exact ⟨c_cons h'.1 k1 k2, c_vcons h'.1 (sV r h'.1 k1) k3, fun ms => c_acons r h'.1 k1 k4⟩
theorem sKs : ∀ (es : Xs) {X : Cx} {W : WX} {sc : Scope} {us : List Keyword}, Cok Nm FA CA C X W → ScM Nm FA X w sc → isKs Nm X.N es sc us = true → PK X us (tEs X.K FA CA W w C es)
  | .nil, X, W, sc, us, c, q, h => by
    have r := q.toScR
    cases us with
    | nil => exact c_knil
    | cons u us => simp [isKs] at h
  | .cons m es, X, W, sc, us, c, q, h => by
    have r := q.toScR
    cases us with
    | nil => simp [isKs] at h
    | cons u us =>
      obtain ⟨n, u, kp⟩ := u
      cases n with
      | none => simp [isKs] at h
      | some n =>
        have h' : isE Nm X.N m sc u = true ∧ isKs Nm X.N es sc us = true := by simpa [isKs] using h
        exact c_kcons (sE m c q h'.1).1 (sKs es c q h'.2)
theorem sAnd : ∀ (es : Xs) {X : Cx} {W : WX} {sc : Scope} {us : List Expr} {pos : Pos}, Cok Nm FA CA C X W → ScM Nm FA X w sc → isEs Nm X.N es sc us = true →
    PE X (.BoolOp .And us pos) (tAn X.K FA CA W w C es) ∧ PW X (.BoolOp .And us pos) (tTest (tAn X.K FA CA W w C es))
  | .nil, X, W, sc, us, pos, c, q, h => no_and
  | .cons m .nil, X, W, sc, us, pos, c, q, h => by
    have r := q.toScR
    cases us with
    | nil => simp [isEs] at h
    | cons u us =>
      have h' : isE Nm X.N m sc u = true ∧ isEs Nm X.N .nil sc us = true := by simpa [isEs] using h
      cases us with
      | nil => exact c_and1 (sE m c q h'.1).1 (sE m c q h'.1).2
      | cons _ _ => simp [isEs] at h'
  | .cons m (.cons f es), X, W, sc, us, pos, c, q, h => by
    have r := q.toScR
    cases us with
    | nil => simp [isEs] at h
    | cons u us =>
      have h' : isE Nm X.N m sc u = true ∧ isEs Nm X.N (.cons f es) sc us = true := by rw [isEs, Bool.and_eq_true] at h; exact h
      cases us with
      | nil => simp [isEs] at h'
      | cons u2 us => exact c_and2 (sE m c q h'.1).1 (sE m c q h'.1).2 (sAnd (.cons f es) c q h'.2)
theorem sOr : ∀ (es : Xs) {X : Cx} {W : WX} {sc : Scope} {us : List Expr} {pos : Pos}, Cok Nm FA CA C X W → ScM Nm FA X w sc → isEs Nm X.N es sc us = true →
    PE X (.BoolOp .Or us pos) (tOr X.K FA CA W w C es) ∧ PW X (.BoolOp .Or us pos) (tTest (tOr X.K FA CA W w C es))
  | .nil, X, W, sc, us, pos, c, q, h => no_or
  | .cons m .nil, X, W, sc, us, pos, c, q, h => by
    have r := q.toScR
    cases us with
    | nil => simp [isEs] at h
    | cons u us =>
      have h' : isE Nm X.N m sc u = true ∧ isEs Nm X.N .nil sc us = true := by simpa [isEs] using h
      cases us with
      | nil => exact c_or1 (sE m c q h'.1).1 (sE m c q h'.1).2
      | cons _ _ => simp [isEs] at h'
  | .cons m (.cons f es), X, W, sc, us, pos, c, q, h => by
    have r := q.toScR
    cases us with
    | nil => simp [isEs] at h
    | cons u us =>
      have h' : isE Nm X.N m sc u = true ∧ isEs Nm X.N (.cons f es) sc us = true := by rw [isEs, Bool.and_eq_true] at h; exact h
      cases us with
      | nil => simp [isEs] at h'
      | cons u2 us => exact c_or2 (sE m c q h'.1).1 (sE m c q h'.1).2 (sOr (.cons f es) c q h'.2)
theorem sBlt (b : Blt) : ∀ (es : Xs) {X : Cx} {W : WX} {sc : Scope} {us : List Expr} {x : Str}, Cok Nm FA CA C X W → ScM Nm FA X w sc → bltIs b us.length x = true → glB sc x = true → isEs Nm X.N es sc us = true →
    ∀ p pos, PE X (.Call (.Name x p) us [] pos) (tE X.K FA CA W w C (.blt b es))
  | .nil, X, W, sc, us, x, c, q, hb, hg, h => by
    have r := q.toScR
    cases us with
    | nil => cases b <;> simp [bltIs] at hb
    | cons u us => simp [isEs] at h
  | .cons m es, X, W, sc, us, x, c, q, hb, hg, h => by
    have r := q.toScR
    cases us with
    | nil => simp [isEs] at h
    | cons u us =>
      have h' : isE Nm X.N m sc u = true ∧ isEs Nm X.N es sc us = true := by rw [isEs, Bool.and_eq_true] at h; exact h
      exact fun p pos => c_blt c r h hb hg (c_vcons h'.1 (sV r h'.1 (sE m c q h'.1).1) (sEs es c q h'.2).2.1)
theorem sPo : ∀ (m : Xo) {X : Cx} {W : WX} {sc : Scope} {e : Option Expr}, Cok Nm FA CA C X W → ScM Nm FA X w sc → isEo Nm X.N m sc e = true → PO X e (tPo X.K FA CA W w C m)
  | .none, X, W, sc, e, c, q, h => by
    have r := q.toScR
    cases e with
    | none => exact c_poN
    | some e => simp [isEo] at h
  | .some m, X, W, sc, e, c, q, h => by
    have r := q.toScR
    cases e with
    | none => simp [isEo] at h
    | some e => exact c_poS (sE m c q (by simpa [isEo] using h)).1
theorem sIfs : ∀ (m : Xo) {X : Cx} {sc : Scope} {us : List Expr}, Cok Nm FA CA C X WF → ScM Nm FA X w sc → isIfs Nm X.N m sc us = true → PTs X us (tCond X.K FA CA w C m)
  | .none, X, sc, us, c, q, h => by
    have r := q.toScR
    cases us with
    | nil => exact c_condN
    | cons u us => simp [isIfs] at h
  | .some m, X, sc, us, c, q, h => by
    have r := q.toScR
    cases us with
    | nil => simp [isIfs] at h
    | cons u us =>
      cases us with
      | nil => exact c_condS (sE m c q (by simpa [isIfs] using h)).2
      | cons _ _ => simp [isIfs] at h
theorem sIt : ∀ (m : RF.It) {X : Cx} {W : WX} {sc : Scope} {tg e : Expr}, Cok Nm FA CA C X W → ScM Nm FA X w sc → isIt Nm X.N m sc tg e = true → PI X tg e (tIt X.K FA CA W w C m)
  | .seq a, X, W, sc, tg, e, c, q, h => by
    have r := q.toScR
    unfold isIt at h
    exact c_seq (sE a c q h).1
  | .rng1 a, X, W, sc, tg, e, c, q, h => by
    have r := q.toScR
    unfold isIt at h; split at h
    · have h1 := ands h
      have h2 := ands h1.1
      exact c_rng1 c r h2.1 h2.2 h1.2 (sE a c q h1.2).1
    · cases h
  | .rng2 a b, X, W, sc, tg, e, c, q, h => by
    have r := q.toScR
    unfold isIt at h; split at h
    · have h1 := ands h
      have h2 := ands h1.1
      have h3 := ands h2.1
      exact c_rng2 c r h3.1 h3.2 h2.2 h1.2 (sE a c q h2.2).1 (sE b c q h1.2).1
    · cases h
  | .rng3 a b d, X, W, sc, tg, e, c, q, h => by
    have r := q.toScR
    unfold isIt at h; cases h
  | .enum a, X, W, sc, tg, e, c, q, h => by
    have r := q.toScR
    unfold isIt at h; split at h
    · have h1 := ands h
      have h2 := ands h1.1
      have h3 := ands h2.1
      have h4 := h1.2
      split at h4
      · exact c_enum c r h3.1 h3.2 h2.2 (sE a c q h2.2).1
      · cases h4
    · cases h
theorem sRng : ∀ (it : RF.It) {X : Cx} {W : WX} {sc : Scope}, Cok Nm FA CA C X W → ScM Nm FA X w sc → (∀ a, it = .rng1 a → ∀ y, isE Nm X.N a sc y = true → PE X y (tE X.K FA CA W w C a)) ∧
    (∀ a b, it = .rng2 a b → ∀ y, (isE Nm X.N a sc y = true → PE X y (tE X.K FA CA W w C a)) ∧ (isE Nm X.N b sc y = true → PE X y (tE X.K FA CA W w C b)))
  | .seq a, X, W, sc, c, q => ⟨fun _ z => (nomatch z), fun _ _ z => (nomatch z)⟩
  | .rng1 a, X, W, sc, c, q => ⟨fun a' z y h => by obtain rfl := It.rng1.inj z; exact (sE a c q h).1, fun _ _ z => (nomatch z)⟩
  | .rng2 a b, X, W, sc, c, q => ⟨fun _ z => (nomatch z), fun a' b' z y => by obtain ⟨rfl, rfl⟩ := It.rng2.inj z; exact ⟨fun h => (sE a c q h).1, fun h => (sE b c q h).1⟩⟩
  | .rng3 a b d, X, W, sc, c, q => ⟨fun _ z => (nomatch z), fun _ _ z => (nomatch z)⟩
  | .enum a, X, W, sc, c, q => ⟨fun _ z => (nomatch z), fun _ _ z => (nomatch z)⟩
end
end
end RF
/-! RFq: statements. -/
namespace RF
open L2 PySem PySem.Spec PyProof.Rows
/-! ### the look at the text -/
/-- `x = [..]` on one line: the value goes straight to the name -/
def swB (sc : Scope) (x : Str) (px : Pos) : Expr → Bool
  | .ListComp _ _ s cp => decide (kd sc x = some .local) && (px.line == cp.line) && !(s.names.any fun (n, k) => n == x && (k == .local || k == .cell))
  | _ => false
def isComp : Expr → Bool
  | .ListComp _ _ _ _ => true
  | .SetComp _ _ _ _ => true
  | .DictComp _ _ _ _ _ => true
  | _ => false
/-- a tuple of constants, or no tuple -/
def noSwap : Expr → Bool
  | .Tuple us _ _ => us.all (foldedForSure 8)
  | _ => true
/-- one of the names is kept in a cell -/
def cellN (sc : Scope) : Expr → Bool
  | .Name x _ => decide (kd sc x = some .cell)
  | _ => false
def anyCell (sc : Scope) (ts : List Expr) : Bool := ts.any (cellN sc)
def parOk (N : List Str) (sc : Scope) (is : List Nat) (ts us : List Expr) : Bool :=
  !us.all (foldedForSure 8) && !us.all (constantsAlone 8) &&
  match is, ts, us with
  | [i, j], [.Name x px, .Name y py], [_, _] => decide (N[i]? = some x) && decide (N[j]? = some y) && decide (kd sc x = some .local) && decide (kd sc y = some .local) && !(x == y) && (py.line == px.line)
  | [i, j, l], [.Name x px, .Name y py, .Name z pz], [_, _, _] => decide (N[i]? = some x) && decide (N[j]? = some y) && decide (N[l]? = some z) && decide (kd sc x = some .local) && decide (kd sc y = some .local) && decide (kd sc z = some .local) &&
      !(x == y) && !(x == z) && !(y == z) && (py.line == px.line) && (pz.line == px.line)
  | _, _, _ => false
def offB (pr is : List Nat) : Bool := is.all fun i => !pr.contains i
theorem offB_ok {pr is : List Nat} (h : offB pr is = true) : ∀ i ∈ is, i ∉ pr := fun i m => by simpa using List.all_eq_true.mp h i m
/-- the slots pr stand as they stood -/
def Kp (pr : List Nat) (σ0 σ : L2.St) : Prop := ∀ i ∈ pr, σ[i]? = σ0[i]?
theorem Kp.set {pr : List Nat} {σ0 σ : L2.St} {i : Nat} {v : Option V} (h : Kp pr σ0 σ) (n : i ∉ pr) : Kp pr σ0 (σ.set i v) := fun j m => by
  rw [List.getElem?_set_ne (fun e => n (by rw [e]; exact m))]; exact h j m
theorem Kp.beside {pr is : List Nat} {σ0 σ σ' : L2.St} (h : Kp pr σ0 σ) (b : Beside is σ σ') (n : ∀ i ∈ is, i ∉ pr) : Kp pr σ0 σ' := fun j m => by
  rw [b.2 j fun z => n j z m]; exact h j m
mutual
def isS (Nm : Names) (N : List Str) (pr : List Nat) (sc : Scope) : S → Stmt → Bool
  | .set i e, st => (match st with | .Assign [.Name x px] u _ => locB N sc i x && isE Nm N e sc u && (!isComp u || swB sc x px u || decide (kd sc x = some .cell)) && !pr.contains i | _ => false)
  | .asg is e, st => (match st with | .Assign [.Tuple ts k p] u _ => tgIs N sc (.tp is) (.Tuple ts k p) && isE Nm N e sc u && (noSwap u || anyCell sc ts) && offB pr is | _ => false)
  | .par is es, st => (match st with | .Assign [.Tuple ts _ _] (.Tuple us _ _) _ => isEs Nm N es sc us && parOk N sc is ts us && offB pr is | _ => false)
  | .sto i k e, st => (match st with | .Assign [.Subscript (.Name x _) ku _] u _ => visB N sc i x && isE Nm N k sc ku && isE Nm N e sc u | _ => false)
  | .app i e, st => (match st with | .Expr (.Call (.Attribute (.Name x _) m p) [u] [] q) _ => m == "append" && (p.endLine == q.line) && visB N sc i x && isE Nm N e sc u | _ => false)
  | .expr e, st => (match st with | .Expr u _ => isE Nm N e sc u && !isComp u | _ => false)
  | .ret e, st => (match st with | .Return (some u) _ => isE Nm N e sc u | _ => false)
  | .ret0, st => (match st with | .Return none _ => true | _ => false)
  | .ite c a b, st => (match st with | .If u as bs _ => isE Nm N c sc u && isSs Nm N pr sc a as && isSs Nm N pr sc b bs | _ => false)
  | .for t it b, st => (match st with | .For tg iu bs [] _ => isIt Nm N it sc tg iu && tgIs N sc t tg && isSs Nm N pr sc b bs && offB pr (tgSlots t) | _ => false)
  | .whl c b, st => (match st with | .While u bs [] _ => isE Nm N c sc u && isSs Nm N pr sc b bs | _ => false)
  | .pass, st => (match st with | .Pass _ => true | _ => false)
  | .never, _ => true
  | .raise k e, st => (match st with | .Raise (some (.Call (.Name x _) [u] [] _)) none _ => decide (Nm.cl k = some x) && glB sc x && isE Nm N e sc u | _ => false)
  | .tryE _ _ _, _ => false
def isSs (Nm : Names) (N : List Str) (pr : List Nat) (sc : Scope) : Ss → List Stmt → Bool
  | .nil, st => (match st with | [] => true | _ => false)
  | .cons s r, st => (match st with | t :: ts => isS Nm N pr sc s t && isSs Nm N pr sc r ts | _ => false)
end
/-! ### readings -/
section
variable (K : PySem.W.Frag) (FA : Fns) (CA : Nat → Option Addr) (W : WX) (w : W0) (pr : List Nat) (σ0 : L2.St)
def PostS (D : Ends) (n : Nat) (F : Hp) (ts : List (Option V × O)) : Out → Prop
  | .nx env' => ∀ σ' H' F', σ'.length = n ∧ Kp pr σ0 σ' → env'.length = n → Hs K FA w F' H' (lv σ' env' ++ ts) → Sub F F' → D.nx σ' H'
  | .rt o env' => ∀ v σ' H' F', σ'.length = n ∧ Kp pr σ0 σ' → env'.length = n → Hs K FA w F' H' ((some v, o) :: (lv σ' env' ++ ts)) → Sub F F' → D.rt v H'
  | .ex c ds => ∀ σ' H' F' od a, CA c = some a → Sub F F' → HR w F' H' → ExcAt K FA F' H' ds od → W (.ref a) od σ' H'
  | .no => False
def tS (C : Cfg) (Wf : Nat) (m : S) : TS := fun D σ H => ∃ F ts env, Kp pr σ0 σ ∧ env.length = σ.length ∧ Hs K FA w F H (lv σ env ++ ts) ∧ PostS K FA CA W w pr σ0 D σ.length F ts (evalS C Wf m env)
def tSs (C : Cfg) (Wf : Nat) (m : Ss) : TS := fun D σ H => ∃ F ts env, Kp pr σ0 σ ∧ env.length = σ.length ∧ Hs K FA w F H (lv σ env ++ ts) ∧ PostS K FA CA W w pr σ0 D σ.length F ts (evalSs C Wf m env)
end
theorem PS.impL {X : Cx} {st : Stmt} {t t' : TS} (p : PS X st t) (i : ∀ D σ H, σ.length = X.N.length → t' D σ H → t D σ H) : PS X st t' := ⟨fun pins s σ H D I h => p.run pins s σ H D I (i D σ H I.len h)⟩
theorem PSs.impL {X : Cx} {st : List Stmt} {t t' : TS} (p : PSs X st t) (i : ∀ D σ H, σ.length = X.N.length → t' D σ H → t D σ H) : PSs X st t' := ⟨fun pins s σ H D I h => p.run pins s σ H D I (i D σ H I.len h)⟩
section
variable {Nm : Names} {FA : Fns} {CA : Nat → Option Addr} {C : Cfg} {X : Cx} {W : WX} {w : W0} {sc : Scope} {Wf : Nat}
variable {σ : L2.St} {F F' F1 H H' H1 : Hp} {ts : List (Option V × O)} {Q : VK} {D : Ends} {n : Nat} {pu : Bool} {pr : List Nat} {σ0 : L2.St}
theorem PostS.rebase {r : Out} (h : PostS X.K FA CA W w pr σ0 D n F ts r) (sF : Sub F F1) : PostS X.K FA CA W w pr σ0 D n F1 ts r := by
  cases r with
  | nx env => exact fun σ' H' F' a b s sf => h σ' H' F' a b s (sF.trans sf)
  | rt o env => exact fun v σ' H' F' a b s sf => h v σ' H' F' a b s (sF.trans sf)
  | ex c ds => exact fun σ' H' F' od a e sf hr x => h σ' H' F' od a e (sF.trans sf) hr x
  | no => exact h
/-- one thing behind another -/
theorem PostS.seq {r : Out} {k : Env → Out} {N : L2.St → Hp → Prop} (h : PostS X.K FA CA W w pr σ0 D n F ts (match r with | .nx env => k env | o => o))
    (i : ∀ env, r = .nx env → ∀ σ' H' F', σ'.length = n ∧ Kp pr σ0 σ' → env.length = n → Hs X.K FA w F' H' (lv σ' env ++ ts) → Sub F F' → PostS X.K FA CA W w pr σ0 D n F' ts (k env) → N σ' H') :
    PostS X.K FA CA W w pr σ0 { D with nx := N, ct := N, bk := D.nx } n F ts r := by
  cases r with
  | nx env => exact fun σ' H' F' a b s sf => i env rfl σ' H' F' a b s sf (h.rebase sf)
  | rt o env => exact h
  | ex c ds => exact h
  | no => exact h
theorem PostS.seq' {r : Out} {k : Env → Out} {N : L2.St → Hp → Prop} (h : PostS X.K FA CA W w pr σ0 D n F ts (match r with | .nx env => k env | o => o))
    (i : ∀ env, r = .nx env → ∀ σ' H' F', σ'.length = n ∧ Kp pr σ0 σ' → env.length = n → Hs X.K FA w F' H' (lv σ' env ++ ts) → Sub F F' → PostS X.K FA CA W w pr σ0 D n F' ts (k env) → N σ' H') :
    PostS X.K FA CA W w pr σ0 { D with nx := N } n F ts r := by
  cases r with
  | nx env => exact fun σ' H' F' a b s sf => i env rfl σ' H' F' a b s sf (h.rebase sf)
  | rt o env => exact h
  | ex c ds => exact h
  | no => exact h
/-- an expression, then the rest -/
theorem bindS {r : R O} {f : O → Env → Out} (hn : n = σ.length) (post : PostS X.K FA CA W w pr σ0 D n F ts (Out.ofR r f))
    (hk : ∀ o env1 v H1 F1, r = .ok o env1 → env1.length = σ.length → Hs X.K FA w F1 H1 ((some v, o) :: (lv σ env1 ++ ts)) → Sub F F1 → PostS X.K FA CA W w pr σ0 D n F1 ts (f o env1) → Q v H1) :
    Post X.K FA CA W w pu σ F H ts Q r := by
  cases r with
  | ok o env => exact fun v H' F' hl s sf p => hk o env v H' F' rfl hl s sf (PostS.rebase post sf)
  | ex c ds => exact fun H' F' od a e sf hr x => post σ H' F' od a e sf hr x
  | no => exact post
theorem swapsNo {u : Expr} {t : Option Expr} {l : Nat} {env : PySem.Env} (h : isComp u = false) : swapsWith u t l env = pure false := by
  cases u <;> first | rfl | (simp [isComp] at h)
theorem swapsCell {u : Expr} {x : Str} {px : Pos} {l : Nat} {env : PySem.Env} (h : env.kindOf x = some .cell) : swapsWith u (some (.Name x px)) l env = pure false := by
  have e : (env.kindOf x == some .local) = false := by rw [h]; rfl
  unfold swapsWith
  cases u <;> first | rfl | simp [e]
theorem swapsSole {u t : Expr} {l : Nat} {env : PySem.Env} (h : ∀ x p, t ≠ .Name x p) : swapsWithSole [t] u l env = pure false := by
  cases t <;> first | exact absurd rfl (h _ _) | (cases u <;> rfl)
variable (c : Cok Nm FA CA C X W) (r : ScR X sc)
include r in
theorem s_store {i : Nat} {x : Str} (hx : locB X.N sc i x = true) (hpr : i ∉ pr) (hn : σ.length = X.N.length) {e : RF.X} (h : tS X.K FA CA W w pr σ0 C Wf (.set i e) D σ H) : tAsg (tE X.K FA CA W w C e) (gName i) D σ H := by
  obtain ⟨F, ts, env, kp, hl, s, post⟩ := h
  unfold evalS at post
  refine ⟨F, ts, env, hl, s, bindS rfl post fun o env1 v H1 F1 _ hl1 s1 sF1 post => ?_⟩
  have hi : i < σ.length := by rw [hn]; exact isE_lt (locB_ok r hx).1
  exact post _ H1 F1 ⟨by rw [List.length_set], kp.set hpr⟩ (by rw [List.length_set]; exact hl1) (s1.store hl1 hi) (Sub.refl _)
include c r in
theorem s_raise {k : Nat} {e : RF.X} {x : Str} {p pos pos' : Pos} {u : Expr} (hk : Nm.cl k = some x) (hg : glB sc x = true) (hi : isE Nm X.N e sc u = true) (he : PE X u (tE X.K FA CA W w C e)) :
    PS X (.Raise (some (.Call (.Name x p) [u] [] pos)) none pos') (tS X.K FA CA W w pr σ0 C Wf (.raise k e)) := by
  obtain ⟨a, ha, ma⟩ := c.cls k x hk
  obtain ⟨⟨fI, cc, Fn, ini⟩, _, _⟩ := c.clf k a ha
  obtain ⟨g1, g2⟩ := glB_ok r hg
  refine PS.impL (RX.ps_raise_own (p := p) (pos := pos) (pos' := pos') ini c.takes c.calm c.rm passL g1 ma g2 he (by rw [star_cons hi]; rfl)) fun D σ H hn ⟨F, ts, env, kp, hl, s, post⟩ => ?_
  unfold evalS at post
  refine ⟨F, ts, env, hl, s, bindS rfl post fun o env1 v H1 F1 _ hl1 s1 sF1 post => ?_⟩
  exact RX.raise_point (W' := fun cls d H' => W cls d σ H') fun dx nd => (by
    obtain ⟨F2, sF2, s2⟩ := s1.freeze
    have s3 := s2.alloc (ob := .xd [("value", v)]) nd (fun xs z => by cases z)
    exact post σ _ F2 (some dx) a (by rw [c.ca]; exact ha) sF2 s3.1 (.inr ⟨dx, v, _, rfl, rfl, upd_same, s2.rep⟩))
include c r in
theorem s_set {i : Nat} {e : RF.X} {x : Str} {px pos : Pos} {u : Expr} (hx : locB X.N sc i x = true) (hpr : i ∉ pr) (hu : swapsWith u (some (.Name x px)) pos.line X.env = pure false) (he : PE X u (tE X.K FA CA W w C e)) : PS X (.Assign [.Name x px] u pos) (tS X.K FA CA W w pr σ0 C Wf (.set i e)) := by
  have h1 := locB_ok r hx
  exact PS.impL (ps_set c.nd h1.1 h1.2.1 he hu h1.2.2) fun D σ H hn h => s_store r hx hpr hn h
include c r in
theorem s_asg {is : List Nat} {e : RF.X} {tg u : Expr} {pos : Pos} (hg : tgIs X.N sc (.tp is) tg = true) (hpr : ∀ i ∈ is, i ∉ pr) (ht : ∀ x p, tg ≠ .Name x p) (hw : swappedStores [tg] u X.env = pure none) (h1 : (assignEach [tg] X.env).map (·.2) = [assign tg X.env]) (he : PE X u (tE X.K FA CA W w C e)) :
    PS X (.Assign [tg] u pos) (tS X.K FA CA W w pr σ0 C Wf (.asg is e)) := by
  refine PS.impL (ps_asg he (c_tg (w := w) c r hg) (swapsSole ht) hw h1) fun D σ H hn ⟨F, ts, env, kp, hl, s, post⟩ => ?_
  unfold evalS at post
  refine ⟨F, ts, env, hl, s, bindS rfl post fun o env1 v H1 F1 _ hl1 s1 sF1 post => ?_⟩
  cases e1 : tgE (.tp is) o env1 with
  | none => rw [e1] at post; exact False.elim post
  | some env2 =>
    rw [e1] at post
    exact ⟨hn, F1, ts, env1, o, hl1, s1, env2, e1, fun σ2 bs hl2 s2 => post σ2 H1 F1 ⟨bs.1, kp.beside bs hpr⟩ (by rw [hl2, bs.1]) s2 (Sub.refl _)⟩
include r in
theorem s_sto {i : Nat} {k e : RF.X} {x : Str} {px p pos : Pos} {ku u : Expr} (hv : visB X.N sc i x = true) (hi : isE Nm X.N k sc ku = true) (hk : PE X ku (tE X.K FA CA W w C k)) (he : PE X u (tE X.K FA CA W w C e)) :
    PS X (.Assign [.Subscript (.Name x px) ku p] u pos) (tS X.K FA CA W w pr σ0 C Wf (.sto i k e)) := by
  refine PS.impL (ps_asg he (pg_sub (pe_slot r hv) hk set_list (fun v => by cases ku <;> first | rfl | (rw [notSlice] at hi; cases hi))) (swapsSole fun _ _ z => by cases z) (by cases u <;> rfl)) fun D σ H hn ⟨F, ts, env, kp, hl, s, post⟩ => ?_
  unfold evalS at post
  refine ⟨F, ts, env, hl, s, bindS rfl post fun o env1 v H1 F1 _ hl1 s1 sF1 post => ?_⟩
  cases e1 : getE env1 i with
  | none => rw [e1] at post; exact False.elim post
  | some o1 =>
    rw [e1] at post
    cases o1 with
    | z d => exact False.elim post
    | t os => exact False.elim post
    | l os0 =>
      have s1' := s1.toTemp
      obtain ⟨va, e2, s2⟩ := s1'.take hl1 e1
      refine ⟨va, e2, F1, (some v, o) :: ts, env1, hl1, s1', ?_⟩
      have post : PostS X.K FA CA W w pr σ0 D σ.length F1 ts (Out.ofR (evalE C k env1) fun x env2 => match x, getE env2 i with
        | .z (.int j), some (.l os) => match L2.ixN os.length j with
          | some q => .nx (env2.set i (some (.l (os.set q o))))
          | none => .no
        | _, _ => .no) := post
      cases e3 : evalE C k env1 with
      | no => rw [e3] at post; exact False.elim post
      | ex c ds => rw [e3] at post; exact fun H' F' od a e sf hr x => post σ H' F' od a e sf hr x
      | ok xk env2 =>
        rw [e3] at post
        intro vk H2 F2 hl2 s3 sF2 _
        cases xk with
        | l _ => exact False.elim post
        | t _ => exact False.elim post
        | z dk =>
        cases dk with
        | int j =>
          have ev := RepV.int (.rep s3.rep : RepV X.K FA F2 H2 vk _)
          subst ev
          cases e4 : getE env2 i with
          | none => rw [Out.ofR_ok, e4] at post; exact False.elim post
          | some o2 =>
            rw [Out.ofR_ok, e4] at post
            cases o2 with
            | z d => exact False.elim post
            | t os => exact False.elim post
            | l os =>
              have post : PostS X.K FA CA W w pr σ0 D σ.length F1 ts (match L2.ixN os.length j with | some q => .nx (env2.set i (some (.l (os.set q o)))) | none => .no) := post
              cases e5 : L2.ixN os.length j with
              | none => rw [e5] at post; exact False.elim post
              | some q =>
                rw [e5] at post
                obtain ⟨vb, e6, s4⟩ := s3.tail.take hl2 e4
                rw [e2] at e6
                obtain rfl : va = vb := by simpa using e6
                obtain ⟨a, vs, rfl, hv, hvl⟩ := s4.own
                obtain ⟨q1, q2, q3, q4⟩ := ixN_seq e5
                have s5 := s4.perm (List.Perm.cons _ List.perm_middle)
                have s6 := Hs.setAt (i := q) hv q2 s5
                have s7 := Hs.back hl2 e2 s6
                exact ⟨a, vs, j, q, rfl, rfl, hv, by rw [hvl]; exact e5, post σ _ F2 ⟨rfl, kp⟩ (by rw [List.length_set]; exact hl2) s7 sF2⟩
        | _ => exact False.elim post
include r in
theorem s_app {i : Nat} {e : RF.X} {x m : Str} {px p q pos : Pos} {u : Expr} (hm : (m == "append") = true) (hl : (p.endLine == q.line) = true) (hv : visB X.N sc i x = true) (hi : isE Nm X.N e sc u = true) (he : PE X u (tE X.K FA CA W w C e)) :
    PS X (.Expr (.Call (.Attribute (.Name x px) m p) [u] [] q) pos) (tS X.K FA CA W w pr σ0 C Wf (.app i e)) := by
  obtain rfl : m = "append" := by simpa using hm
  refine PS.impL (ps_expr (pe_bm (T := "list") PySem.F.plainAttrs_list PySem.F.slot_list_append PySem.F.type_list_append mt_append (pe_slot r hv) (pa_cons he pa_nil (star_cons hi)) (by rfl) (by rw [star_cons hi]; rfl) hl (star_cons hi) (by rfl)) (by rfl)) fun D σ H hn ⟨F, ts, env, kp, hl, s, post⟩ => ?_
  unfold evalS at post
  cases e0 : getE env i with
  | none => rw [e0] at post; exact False.elim post
  | some o1 =>
    rw [e0] at post
    cases o1 with
    | z d => exact False.elim post
    | t os => exact False.elim post
    | l os0 =>
      obtain ⟨v, e1, s1⟩ := s.take hl e0
      obtain ⟨a, vs0, rfl, hv0, hvl0⟩ := s1.own
      refine ⟨_, e1, Or.inl ⟨rfl, _, Or.inl (Or.inl hv0)⟩, F, ts, env, hl, s, ?_⟩
      refine bindS rfl post fun o env1 y H1 F1 _ hl1 s1 sF1 post => ?_
      cases e2 : getE env1 i with
      | none => rw [e2] at post; exact False.elim post
      | some o2 =>
        rw [e2] at post
        cases o2 with
        | z d => exact False.elim post
        | t os => exact False.elim post
        | l os =>
          have post : PostS X.K FA CA W w pr σ0 D σ.length F1 ts (if lenOk os then .nx (env1.set i (some (.l (os ++ [o])))) else .no) := post
          have hlen : lenOk os = true ∨ lenOk os = false := by cases lenOk os <;> simp
          rcases hlen with hlen | hlen
          · rw [hlen] at post
            have hlen2 : os.length < 2 ^ 20 := of_decide_eq_true (show decide (os.length < 2 ^ 20) = true from hlen)
            obtain ⟨vb, e6, s4⟩ := s1.toTemp.take hl1 e2
            rw [e1] at e6
            obtain rfl : V.ref a = vb := by simpa using e6
            obtain ⟨a', vs, ea, hv, hvl⟩ := s4.own
            cases ea
            have s5 := s4.perm (List.Perm.cons _ List.perm_middle)
            have s6 := Hs.append hv s5
            have s7 := Hs.back hl1 e1 s6
            have e24 : (sizeLine : Nat) = 2 ^ 24 := rfl
            exact ⟨a, vs, y, rfl, rfl, hv, by omega, post σ _ F1 ⟨rfl, kp⟩ (by rw [List.length_set]; exact hl1) s7 (Sub.refl _)⟩
          · rw [hlen] at post; exact False.elim post
theorem s_expr {e : RF.X} {u : Expr} {pos : Pos} (hu : isComp u = false) (he : PE X u (tE X.K FA CA W w C e)) : PS X (.Expr u pos) (tS X.K FA CA W w pr σ0 C Wf (.expr e)) := by
  refine PS.impL (ps_expr he (swapsNo hu)) fun D σ H hn ⟨F, ts, env, kp, hl, s, post⟩ => ?_
  unfold evalS at post
  exact ⟨F, ts, env, hl, s, bindS rfl post fun o env1 v H1 F1 _ hl1 s1 sF1 post => post σ H1 F1 ⟨rfl, kp⟩ hl1 s1.tail (Sub.refl _)⟩
theorem evalS_ret {C : Cfg} {e : RF.X} {env : Env} (h : ∀ i, e ≠ .v i) : evalS C Wf (.ret e) env = Out.ofR (evalE C e env) fun o env1 => .rt o env1 := by
  cases e <;> first | exact absurd rfl (h _) | rfl
include r in
theorem s_ret {e : RF.X} {u : Expr} {pos : Pos} (hi : isE Nm X.N e sc u = true) (he : PE X u (tE X.K FA CA W w C e)) : PS X (.Return (some u) pos) (tS X.K FA CA W w pr σ0 C Wf (.ret e)) := by
  by_cases z : ∃ i, e = .v i
  · obtain ⟨i, rfl⟩ := z
    unfold isE at hi
    split at hi
    · rename_i x px
      refine PS.impL (ps_ret (pe_slot r hi)) fun D σ H hn ⟨F, ts, env, kp, hl, s, post⟩ => ?_
      unfold evalS at post
      cases e0 : getE env i with
      | none => rw [e0] at post; exact False.elim post
      | some o =>
        rw [e0] at post
        obtain ⟨v, e1, s1⟩ := s.take hl e0
        exact ⟨v, e1, post v σ H F ⟨rfl, kp⟩ (by rw [List.length_set]; exact hl) s1 (Sub.refl _)⟩
    · cases hi
  · refine PS.impL (ps_ret he) fun D σ H hn ⟨F, ts, env, kp, hl, s, post⟩ => ?_
    rw [evalS_ret fun i e => z ⟨i, e⟩] at post
    exact ⟨F, ts, env, hl, s, bindS rfl post fun o env1 v H1 F1 _ hl1 s1 sF1 post => post v σ H1 F1 ⟨rfl, kp⟩ hl1 s1 (Sub.refl _)⟩
theorem s_ret0 {pos : Pos} : PS X (.Return none pos) (tS X.K FA CA W w pr σ0 C Wf .ret0) :=
  PS.impL ps_retN fun D σ H hn ⟨F, ts, env, kp, hl, s, post⟩ => by
    unfold evalS at post
    exact post .non σ H F ⟨rfl, kp⟩ hl (s.add .non) (Sub.refl _)
theorem s_pass {pos : Pos} : PS X (.Pass pos) (tS X.K FA CA W w pr σ0 C Wf .pass) :=
  PS.impL ps_pass fun D σ H hn ⟨F, ts, env, kp, hl, s, post⟩ => by
    unfold evalS at post
    exact post σ H F ⟨rfl, kp⟩ hl s (Sub.refl _)
theorem s_ite {e : RF.X} {a b : Ss} {u : Expr} {as bs : List Stmt} {pos : Pos} (hc : PT X u (tTest (tE X.K FA CA W w C e))) (ha : PSs X as (tSs X.K FA CA W w pr σ0 C Wf a)) (hb : PSs X bs (tSs X.K FA CA W w pr σ0 C Wf b)) :
    PS X (.If u as bs pos) (tS X.K FA CA W w pr σ0 C Wf (.ite e a b)) := by
  refine PS.impL (ps_if hc ha hb) fun D σ H hn ⟨F, ts, env, kp, hl, s, post⟩ => ?_
  unfold evalS at post
  refine ⟨F, ts, env, hl, s, bindS rfl post fun o env1 v H1 F1 _ hl1 s1 sF1 post => ?_⟩
  cases o with
  | l _ => exact False.elim post
  | t _ => exact False.elim post
  | z d =>
  cases d with
  | bl k =>
    have ev := RepV.bl (.rep s1.rep : RepV X.K FA F1 H1 v _)
    subst ev
    cases k with
    | true => exact ⟨true, rfl, iteT ⟨F1, ts, env1, kp, hl1, s1.tail, post⟩⟩
    | false => exact ⟨false, rfl, iteF ⟨F1, ts, env1, kp, hl1, s1.tail, post⟩⟩
  | _ => exact False.elim post
theorem s_whl {e : RF.X} {b : Ss} {u : Expr} {bs : List Stmt} {pos : Pos} (hp : PassesOwn (model X.prog X.w) X.A X.env X.xe) (hc : PT X u (tTest (tE X.K FA CA W w C e))) (hb : PSs X bs (tSs X.K FA CA W w pr σ0 C Wf b)) :
    PS X (.While u bs [] pos) (tS X.K FA CA W w pr σ0 C Wf (.whl e b)) := by
  refine PS.impL (ps_while hp hc hb) fun D σ H hn ⟨F, ts, env, kp, hl, s, post⟩ => ?_
  unfold evalS at post
  refine ⟨fun m σ2 H2 => (σ2.length = σ.length ∧ Kp pr σ0 σ2) ∧ ∃ F2 env2, env2.length = σ2.length ∧ Hs X.K FA w F2 H2 (lv σ2 env2 ++ ts) ∧ PostS X.K FA CA W w pr σ0 D σ2.length F2 ts (evalWhile (fun z => evalE C e z) (fun z => evalSs C Wf b z) m env2), ⟨Wf, ⟨rfl, kp⟩, F, env, hl, s, post⟩, ?_⟩
  rintro m σ2 H2 ⟨⟨hl0, kp⟩, F2, env2, hl2, s2, post⟩
  cases m with
  | zero => exact False.elim post
  | succ m =>
    have post : PostS X.K FA CA W w pr σ0 D σ2.length F2 ts (Out.ofR (evalE C e env2) fun x env1 => match x with
      | .z (.bl true) => match evalSs C Wf b env1 with
        | .nx env2 => evalWhile (fun z => evalE C e z) (fun z => evalSs C Wf b z) m env2
        | r => r
      | .z (.bl false) => .nx env1
      | _ => .no) := post
    refine ⟨F2, ts, env2, hl2, s2, bindS rfl post fun o env3 v H3 F3 _ hl3 s3 sF3 post => ?_⟩
    cases o with
    | l _ => exact False.elim post
    | t _ => exact False.elim post
    | z d =>
    cases d with
    | bl k =>
      have ev := RepV.bl (.rep s3.rep : RepV X.K FA F3 H3 v _)
      subst ev
      cases k with
      | true =>
        refine ⟨true, rfl, iteT ⟨fun σ' H' => (σ'.length = σ.length ∧ Kp pr σ0 σ') ∧ ∃ F2 env2, env2.length = σ'.length ∧ Hs X.K FA w F2 H' (lv σ' env2 ++ ts) ∧ PostS X.K FA CA W w pr σ0 D σ'.length F2 ts (evalWhile (fun z => evalE C e z) (fun z => evalSs C Wf b z) m env2),
          fun σ' H' q => ⟨m, Nat.lt_succ_self _, q⟩, F3, ts, env3, kp, hl3, s3.tail, ?_⟩⟩
        exact PostS.seq post fun env4 _ σ4 H4 F4 a4 b4 s4 sf4 post => ⟨⟨by rw [a4.1, hl0], a4.2⟩, F4, env4, by rw [b4, a4.1], s4, by rw [a4.1]; exact post⟩
      | false => exact ⟨false, rfl, iteF (post σ2 H3 F3 ⟨rfl, kp⟩ hl3 s3.tail (Sub.refl _))⟩
    | _ => exact False.elim post
include c r in
theorem s_for {t : Tg} {it : RF.It} {b : Ss} {tg iu : Expr} {bs : List Stmt} {pos : Pos} (hp : PassesOwn (model X.prog X.w) X.A X.env X.xe) (hi : PI X tg iu (tIt X.K FA CA W w C it)) (hf : ∀ x, foldedSetIterable iu X.env x = pure x) (hg : tgIs X.N sc t tg = true) (hpr : ∀ i ∈ tgSlots t, i ∉ pr)
    (hb : PSs X bs (tSs X.K FA CA W w pr σ0 C Wf b)) : PS X (.For tg iu bs [] pos) (tS X.K FA CA W w pr σ0 C Wf (.for t it b)) := by
  refine PS.impL (ps_for hp c.calm hi (c_tg (w := w) c r hg) hb hf) fun D σ H hn ⟨F, ts, env, kp, hl, s, post⟩ => ?_
  unfold evalS at post
  refine ⟨F, ts, env, hl, s, ?_⟩
  have turn : ∀ ds env1 J H1 F1, env1.length = σ.length → Hs X.K FA w F1 H1 (lv σ env1 ++ ts) → WalkOk X.K FA w J ds F1 → PostS X.K FA CA W w pr σ0 D σ.length F1 ts (evalFor t (fun z => evalSs C Wf b z) ds env1) →
      ∃ WW : Nat → Nat → L2.St → Hp → Prop, (∃ m, WW 0 m σ H1) ∧ ∀ i m σ H, WW i m σ H →
        (J.stop i H ∧ D.nx σ H) ∨ (J.go i H ∧ ∃ N : L2.St → Hp → Prop, (∀ σ' H', N σ' H' → ∃ m', m' < m ∧ WW (i + 1) m' σ' H') ∧ ∀ x H', J.yld i H x H' → tTg' X.K FA w X.N.length t x σ H' fun σ2 H2 => tSs X.K FA CA W w pr σ0 C Wf b { D with nx := N, ct := N, bk := D.nx } σ2 H2) := by
    intro ds env1 J H1 F1 hl1 s1 wk post
    refine ⟨fun i m σ2 H2 => m = ds.length - i ∧ i ≤ ds.length ∧ (σ2.length = σ.length ∧ Kp pr σ0 σ2) ∧ ∃ F2 env2, Sub F1 F2 ∧ env2.length = σ.length ∧ Hs X.K FA w F2 H2 (lv σ2 env2 ++ ts) ∧ PostS X.K FA CA W w pr σ0 D σ.length F2 ts (evalFor t (fun z => evalSs C Wf b z) (ds.drop i) env2),
      ⟨ds.length, by omega, by omega, ⟨rfl, kp⟩, F1, env1, Sub.refl _, hl1, s1, post⟩, ?_⟩
    rintro i m σ2 H2 ⟨rfl, hi2, ⟨hl0, kp⟩, F2, env2, sF2, hl2, s2, post⟩
    by_cases hlast : i < ds.length
    · right
      refine ⟨wk.go i H2 F2 sF2 s2.1.sub hlast, fun σ' H' => i + 1 ≤ ds.length ∧ (σ'.length = σ.length ∧ Kp pr σ0 σ') ∧ ∃ F2 env2, Sub F1 F2 ∧ env2.length = σ.length ∧ Hs X.K FA w F2 H' (lv σ' env2 ++ ts) ∧ PostS X.K FA CA W w pr σ0 D σ.length F2 ts (evalFor t (fun z => evalSs C Wf b z) (ds.drop (i + 1)) env2),
        fun σ' H' q => ⟨ds.length - (i + 1), by omega, rfl, q⟩, fun x H3 hy => ?_⟩
      have hdi : ds[i]? = some ds[i] := List.getElem?_eq_getElem hlast
      obtain ⟨F3, sF3, sH3, s3⟩ := wk.yld i H2 x H3 F2 _ _ sF2 s2 hdi hy
      rw [List.drop_eq_getElem_cons hlast] at post
      unfold evalFor at post
      cases e1 : tgE t (.z ds[i]) env2 with
      | none => rw [e1] at post; exact False.elim post
      | some env3 =>
        rw [e1] at post
        refine ⟨by rw [hl0, hn], F3, ts, env2, _, by rw [hl2, hl0], s3, env3, e1, fun σ3 bs hl3 s4 => ?_⟩
        have a3 : σ3.length = σ.length := by rw [bs.1, hl0]
        refine ⟨F3, ts, env3, kp.beside bs hpr, hl3, s4, ?_⟩
        rw [a3]
        exact PostS.seq (post.rebase sF3) fun env4 _ σ4 H4 F4 a4 b4 s4 sf4 post => ⟨by omega, a4, F4, env4, (sF2.trans sF3).trans sf4, b4, s4, post⟩
    · left
      have e0 : ds.drop i = [] := List.drop_eq_nil_iff.mpr (by omega)
      rw [e0] at post
      unfold evalFor at post
      exact ⟨wk.stop i H2 F2 sF2 s2.1.sub (by omega), post σ2 H2 F2 ⟨hl0, kp⟩ hl2 s2 (Sub.refl _)⟩
  cases e1 : evalIt C it env with
  | no => rw [e1] at post; exact False.elim post
  | ex c ds => rw [e1] at post; exact fun H' F' od a e sf hr x => post σ H' F' od a e sf hr x
  | ok ds env1 =>
    rw [e1] at post
    exact fun J H1 F1 hl1 s1 wk sF1 _ => turn ds env1 J H1 F1 hl1 s1 wk (PostS.rebase post sF1)
end
end RF
/-! RFr: every statement. -/
namespace RF
open L2 PySem PySem.Spec PyProof.Rows
/-! ### stores from the right -/
section
variable {env : PySem.Env} {a b d : Expr}
theorem swap2 {x y : Str} {px py pt pt2 : Pos} {kt k2 : Nat} (hk : env.blockKind = .function) (hx : env.kindOf x = some .local) (hy : env.kindOf y = some .local) (hxy : (x == y) = false) (hl : (py.line == px.line) = true)
    (hs : ([a, b].any fun | .Starred .. => true | _ => false) = false) (h1 : [a, b].all (foldedForSure 8) = false) (h2 : [a, b].all (constantsAlone 8) = false) :
    swappedStores [.Tuple [.Name x px, .Name y py] kt pt] (.Tuple [a, b] k2 pt2) env = pure (some [x, y]) := by
  have hyx : (y == x) = false := by rw [Bool.eq_false_iff] at hxy ⊢; exact fun z => hxy (by rw [eq_of_beq z]; exact beq_self_eq_true x)
  have e2 : [x, y].eraseDups.length = 2 := by
    simp [List.eraseDups_cons, hyx, hxy]
  have hxx : (px.line == px.line) = true := beq_self_eq_true _
  unfold swappedStores
  simp only [hk, h1, h2, List.length_cons, List.length_nil, List.head?_cons, Option.map_some, Option.getD_some, Expr.pos, List.filterMap_cons, List.filterMap_nil, hx, hy, hl, hxx, beq_self_eq_true, Bool.and_true, if_true, e2]
  rw [if_neg (by decide), if_neg (by rw [Bool.not_eq_true]; exact hs)]
  rfl
theorem swap3 {x y z : Str} {px py pz pt pt2 : Pos} {kt k2 : Nat} (hk : env.blockKind = .function) (hx : env.kindOf x = some .local) (hy : env.kindOf y = some .local) (hz : env.kindOf z = some .local) (hxy : (x == y) = false) (hxz : (x == z) = false) (hyz : (y == z) = false)
    (hl : (py.line == px.line) = true) (hl2 : (pz.line == px.line) = true)
    (hs : ([a, b, d].any fun | .Starred .. => true | _ => false) = false) (h1 : [a, b, d].all (foldedForSure 8) = false) (h2 : [a, b, d].all (constantsAlone 8) = false) :
    swappedStores [.Tuple [.Name x px, .Name y py, .Name z pz] kt pt] (.Tuple [a, b, d] k2 pt2) env = pure (some [x, y, z]) := by
  have rv : ∀ {u v : Str}, (u == v) = false → (v == u) = false := fun {u v} h => by rw [Bool.eq_false_iff] at h ⊢; exact fun z => h (by rw [eq_of_beq z]; exact beq_self_eq_true u)
  have e2 : [x, y, z].eraseDups.length = 3 := by
    simp [List.eraseDups_cons, rv hxy, hxy, rv hxz, rv hyz]
  have hxx : (px.line == px.line) = true := beq_self_eq_true _
  unfold swappedStores
  simp only [hk, h1, h2, List.length_cons, List.length_nil, List.head?_cons, Option.map_some, Option.getD_some, Expr.pos, List.filterMap_cons, List.filterMap_nil, hx, hy, hz, hl, hl2, hxx, beq_self_eq_true, Bool.and_true, if_true, e2]
  rw [if_neg (by decide), if_neg (by rw [Bool.not_eq_true]; exact hs)]
  rfl
theorem swapNone {ts : List Expr} {u : Expr} {k : Nat} {p : Pos} (h : noSwap u = true) : swappedStores [.Tuple ts k p] u env = pure none := by
  cases u with
  | Tuple us k2 p2 =>
    have h : us.all (foldedForSure 8) = true := h
    unfold swappedStores
    simp only [h, if_true]
    split
    · rfl
    · split
      · rfl
      · split
        · rfl
        · rfl
  | _ => rfl
end
theorem swapCell {X : Cx} {sc : Scope} (r : ScR X sc) {ts : List Expr} {u : Expr} {k : Nat} {p : Pos} (h : anyCell sc ts = true) : swappedStores [.Tuple ts k p] u X.env = pure none := by
  cases u with
  | Tuple us k2 p2 =>
    have key : ∀ (line : Nat) (ts : List Expr), anyCell sc ts = true → (ts.filterMap fun
        | .Name id pos => if X.env.kindOf id == some .local && pos.line == line then some id else none
        | _ => none).length < ts.length := fun line ts => by
      induction ts with
      | nil => intro h; cases h
      | cons t ts ih =>
        intro h
        have le := List.length_filterMap_le (fun (e : Expr) => match e with
          | .Name id pos => if X.env.kindOf id == some .local && pos.line == line then some id else none
          | _ => none) ts
        rw [List.filterMap_cons]
        have h : (cellN sc t || anyCell sc ts) = true := h
        rcases Bool.or_eq_true_iff.mp h with h | h
        · cases t with
          | Name x px =>
            have e : X.env.kindOf x = some .cell := (r.cell x (of_decide_eq_true h)).1
            have e2 : (X.env.kindOf x == some .local) = false := by rw [e]; rfl
            simp only [e2, Bool.false_and, Bool.false_eq_true, if_false]
            exact Nat.lt_succ_of_le le
          | _ => cases h
        · have := ih h
          split
          · exact Nat.lt_succ_of_lt this
          · simp only [List.length_cons]; exact Nat.succ_lt_succ this
    have kk := key ((ts.head?.map (·.pos.line)).getD 0) ts h
    have ne : ∀ {a b : Nat}, a < b → (a != b) = true := fun h => by simp; omega
    unfold swappedStores
    dsimp only
    split
    · rfl
    · split
      · rfl
      · exact if_pos (Bool.or_eq_true_iff.mpr (.inl (ne kk)))
  | _ => rfl
theorem notStar' {Nm : Names} {N : List Str} {m : X} {sc : Scope} {e : Expr} (h : isE Nm N m sc e = true) : (match (generalizing := false) e with | .Starred .. => true | _ => false) = false := by
  cases e <;> first | rfl | (rw [notStar] at h; cases h)
theorem noStars {Nm : Names} {N : List Str} {sc : Scope} : ∀ {es : Xs} {us : List Expr}, isEs Nm N es sc us = true → (us.any fun | .Starred .. => true | _ => false) = false
  | .nil, [], _ => rfl
  | .nil, _ :: _, h => by simp [isEs] at h
  | .cons _ _, [], h => by simp [isEs] at h
  | .cons e es, u :: us, h => by
    have h' : isE Nm N e sc u = true ∧ isEs Nm N es sc us = true := by simpa [isEs] using h
    rw [List.any_cons, noStars h'.2, Bool.or_false]
    exact notStar' h'.1
/-! ### the context of a body -/
structure Stm (Nm : Names) (FA : Fns) (CA : Nat → Option Addr) (C : Cfg) (X : Cx) (W : WX) (w : W0) (sc : Scope) : Prop where
  c : Cok Nm FA CA C X W
  q : ScM Nm FA X w sc
  kind : X.env.scope.kind = .function
  hp : PassesOwn (model X.prog X.w) X.A X.env X.xe
section
variable {Nm : Names} {FA : Fns} {CA : Nat → Option Addr} {C : Cfg} {X : Cx} {W : WX} {w : W0} {sc : Scope} {Wf : Nat}
variable {σ : L2.St} {F F' F1 H H' H1 : Hp} {ts : List (Option V × O)} {Q : VK} {D : Ends} {n : Nat} {pu : Bool} {pr : List Nat} {σ0 : L2.St}
theorem s_setLc (S : Stm Nm FA CA C X W w sc) {i : Nat} {elt : RF.X} {t : Tg} {it : RF.It} {cd : Xo} {own : List Nat} {x : Str} {px pos : Pos} {u : Expr} (h : isE Nm X.N (.comp elt t it cd own) sc u = true) (hx : locB X.N sc i x = true) (hpr : i ∉ pr) (hsw : swB sc x px u = true) :
    PS X (.Assign [.Name x px] u pos) (tS X.K FA CA W w pr σ0 C Wf (.set i (.comp elt t it cd own))) := by
  have c := S.c
  have q := S.q
  have r := q.toScR
  unfold isE at h; split at h
  · rename_i u tg iu ifs sc' cp
    have h1 := ands h
    have h2 := ands h1.1
    have h3 := ands h2.1
    have h4 := ands h3.1
    have h5 := ands h4.1
    have h6 := ands h5.1
    have h7 := ands h6.1
    have hin : ∀ i ∈ tgSlots t, i ∈ own := fun i m => by simpa using List.all_eq_true.mp h5.2 i m
    have hl := locB_ok r hx
    have hsw : (decide (kd sc x = some .local) && (px.line == cp.line) && !(sc'.names.any fun (n, k) => n == x && (k == .local || k == .cell))) = true := hsw
    obtain ⟨q1, q2⟩ := ands hsw
    obtain ⟨q3, q4⟩ := ands q1
    have q5 := r.loc x (of_decide_eq_true q3)
    have eo : (ownOf X.N own).map (·.2) = own := by
      unfold ownOf
      rw [List.map_map]
      exact List.map_id' _
    have he : ∀ (s : Shared) (H : Hp) (C' : Addr) (cl : List (Str × Addr)) (fp : List Addr), PE (X.blk s H sc' (compEnvC sc' cl C' X.env) fp) u (tE X.K FA CA WF w C elt) := fun s H C' cl fp => (sE (w := w) elt (c.blk ..) q.blk h1.2).1
    have ht : ∀ (s : Shared) (H : Hp) (C' : Addr) (cl : List (Str × Addr)) (fp : List Addr), PTs (X.blk s H sc' (compEnvC sc' cl C' X.env) fp) ifs (tCond X.K FA CA w C cd) := fun s H C' cl fp => sIfs (w := w) cd (c.blk ..) q.blk h2.2
    have hg : ∀ (s : Shared) (H : Hp) (C' : Addr) (cl : List (Str × Addr)) (fp : List Addr), L2.PG (X.blk s H sc' (compEnvC sc' cl C' X.env) fp) tg (tTg' X.K FA w X.N.length t) := fun s H C' cl fp => c_tg (w := w) (c.blk ..) ScR.blk h3.2
    refine PS.impL (ps_setLc c.calm c.nd hl.1 q5 (sw_true S.kind q5 q4 (by simpa using q2)) (sIt (w := w) it c q h4.2) (blkOk_sc r h7.1) hg ht he (isIt_fold h4.2)) fun D σ H hn h => ?_
    have k := i_comp (of_decide_eq_true h6.2) hin σ H _ hn (s_store r hx hpr hn h)
    rw [eo]
    exact k
  · cases h
theorem comp_of {N : List Str} {e : RF.X} {u : Expr} {x : Str} {px : Pos} (h : isE Nm N e sc u = true) (hs : swB sc x px u = true) : ∃ elt t it cd own, e = .comp elt t it cd own := by
  cases u with
  | ListComp a b s p => cases e <;> first | exact ⟨_, _, _, _, _, rfl⟩ | exact Bool.noConfusion (show false = true from h)
  | _ => exact Bool.noConfusion (show false = true from hs)
theorem hs_store2 {v1 v2 : V} {o1 o2 : O} {env : Env} {i j : Nat} (hl : env.length = σ.length) (hi : i < σ.length) (hj : j < σ.length) {K : PySem.W.Frag} (s : Hs K FA w F H ((some v1, o1) :: (some v2, o2) :: (lv σ env ++ ts))) :
    Hs K FA w F H (lv ((σ.set i (some v1)).set j (some v2)) ((env.set i (some o1)).set j (some o2)) ++ ts) := by
  have s1 := s.perm (List.Perm.cons _ List.perm_middle.symm)
  have s2 := (s1.store hl hi).ofTemp
  exact s2.store (by simp [hl]) (by simpa using hj)
theorem s_par (S : Stm Nm FA CA C X W w sc) {is : List Nat} {es : Xs} {ts us : List Expr} {k1 k2 : Nat} {p1 p2 pos : Pos} (hi : isEs Nm X.N es sc us = true) (hp : parOk X.N sc is ts us = true) (hpr : ∀ i ∈ is, i ∉ pr) :
    PS X (.Assign [.Tuple ts k1 p1] (.Tuple us k2 p2) pos) (tS X.K FA CA W w pr σ0 C Wf (.par is es)) := by
  have c := S.c
  have q := S.q
  have r := q.toScR
  have bk : X.env.blockKind = .function := by unfold Env.blockKind; rw [S.kind]; rfl
  have ha := (sEs (w := w) es c q hi).1
  unfold parOk at hp
  have p1 := ands hp
  have p2 := ands p1.1
  have f1 : us.all (foldedForSure 8) = false := by simpa using p2.1
  have f2 : us.all (constantsAlone 8) = false := by simpa using p2.2
  have ns := noStars hi
  have hlen := isEs_len hi
  have h := p1.2
  split at h
  · rename_i i j x px y py a b
    simp only [Bool.and_eq_true, decide_eq_true_eq, Bool.not_eq_true'] at h
    obtain ⟨⟨⟨⟨⟨h1, h2⟩, h3⟩, h4⟩, h5⟩, h6⟩ := h
    have lx := r.loc x h3
    have ly := r.loc y h4
    have ij : i ≠ j := fun e => by
      subst e
      rw [h1] at h2
      obtain rfl := Option.some.inj h2
      simp at h5
    refine PS.impL (ps_par c.calm c.nd h1 h2 ij lx ly ha (swap2 bk lx ly h5 h6 ns f1 f2)) fun D σ H hn ⟨F, ts, env, kp, hl, s, post⟩ => ?_
    unfold evalS at post
    refine ⟨F, ts, env, hl, s, ?_⟩
    cases e1 : evalEs C es env with
    | no => rw [e1] at post; exact False.elim post
    | ex c ds => rw [e1] at post; exact fun H' F' od a e sf hr x => post σ H' F' od a e sf hr x
    | ok os env1 =>
      rw [e1] at post
      intro vs H' F' hl1 hv s1 sF _
      have hos : os.length = 2 := by rw [evalEs_len e1, hlen]; rfl
      match os, vs, hos, hv, s1, post with
      | [o1, o2], [v1, v2], _, _, s1, post =>
        have post : PostS X.K FA CA W w pr σ0 D σ.length F ts (.nx ((env1.set i (some o1)).set j (some o2))) := post
        exact ⟨v1, v2, rfl, post _ H' F' ⟨by simp, (kp.set (hpr _ (by simp))).set (hpr _ (by simp))⟩ (by simp [hl1]) (hs_store2 hl1 (by rw [hn]; exact isE_lt h1) (by rw [hn]; exact isE_lt h2) s1) sF⟩
  · rename_i i j l x px y py z pz a b d
    simp only [Bool.and_eq_true, decide_eq_true_eq, Bool.not_eq_true'] at h
    obtain ⟨⟨⟨⟨⟨⟨⟨⟨⟨⟨h1, h2⟩, h3⟩, h4⟩, h5⟩, h6⟩, h7⟩, h8⟩, h9⟩, h10⟩, h11⟩ := h
    have lx := r.loc x h4
    have ly := r.loc y h5
    have lz := r.loc z h6
    have ne : ∀ {i j : Nat} {x y : Str}, X.N[i]? = some x → X.N[j]? = some y → (x == y) = false → i ≠ j := fun {i j x y} h1 h2 h5 e => by
      subst e
      rw [h1] at h2
      obtain rfl := Option.some.inj h2
      simp at h5
    refine PS.impL (ps_par3 c.calm c.nd h1 h2 h3 (ne h1 h2 h7) (ne h1 h3 h8) (ne h2 h3 h9) lx ly lz ha (swap3 bk lx ly lz h7 h8 h9 h10 h11 ns f1 f2)) fun D σ H hn ⟨F, ts, env, kp, hl, s, post⟩ => ?_
    unfold evalS at post
    refine ⟨F, ts, env, hl, s, ?_⟩
    cases e1 : evalEs C es env with
    | no => rw [e1] at post; exact False.elim post
    | ex c ds => rw [e1] at post; exact fun H' F' od a e sf hr x => post σ H' F' od a e sf hr x
    | ok os env1 =>
      rw [e1] at post
      intro vs H' F' hl1 hv s1 sF _
      have hos : os.length = 3 := by rw [evalEs_len e1, hlen]; rfl
      match os, vs, hos, hv, s1, post with
      | [o1, o2, o3], [v1, v2, v3], _, _, s1, post =>
        have post : PostS X.K FA CA W w pr σ0 D σ.length F ts (.nx (((env1.set i (some o1)).set j (some o2)).set l (some o3))) := post
        have s1 : Hs X.K FA w F' H' ((some v1, o1) :: (some v2, o2) :: (some v3, o3) :: (lv σ env1 ++ ts)) := s1
        have s2 := s1.perm (List.Perm.cons _ (List.Perm.cons _ List.perm_middle.symm))
        have s3 := (hs_store2 hl1 (by rw [hn]; exact isE_lt h1) (by rw [hn]; exact isE_lt h2) s2).ofTemp
        have hl' : l < σ.length := by rw [hn]; exact isE_lt h3
        exact ⟨v1, v2, v3, rfl, post _ H' F' ⟨by simp, ((kp.set (hpr _ (by simp))).set (hpr _ (by simp))).set (hpr _ (by simp))⟩ (by simp [hl1]) (s3.store (by simp [hl1]) (by simpa using hl')) sF⟩
  · cases h
mutual
theorem sS (S : Stm Nm FA CA C X W w sc) : ∀ (m : RF.S) {st : Stmt}, isS Nm X.N pr sc m st = true → PS X st (tS X.K FA CA W w pr σ0 C Wf m)
  | .set i e, st, h => by
    unfold isS at h; split at h
    · rename_i x px u pos
      have h0 := ands h
      have h1 := ands h0.1
      have h2 := ands h1.1
      have hpr : i ∉ pr := by simpa using h0.2
      by_cases hc : kd sc x = some .cell
      · exact s_set S.c S.q.toScR h2.1 hpr (swapsCell (S.q.cell x hc).1) (sE e S.c S.q h2.2).1
      by_cases hu : isComp u = true
      · have h3 : swB sc x px u = true := by have := h1.2; rw [hu] at this; simpa [hc] using this
        obtain ⟨elt, t, it, cd, own, rfl⟩ := comp_of h2.2 h3
        exact s_setLc S h2.2 h2.1 hpr h3
      · exact s_set S.c S.q.toScR h2.1 hpr (swapsNo (by simpa using hu)) (sE e S.c S.q h2.2).1
    · cases h
  | .asg is e, st, h => by
    unfold isS at h; split at h
    · have h0 := ands h
      have h1 := ands h0.1
      have h2 := ands h1.1
      exact s_asg S.c S.q.toScR h2.1 (offB_ok h0.2) (fun _ _ z => by cases z) ((Bool.or_eq_true_iff.mp h1.2).elim swapNone fun z => swapCell S.q.toScR z) (by rfl) (sE e S.c S.q h2.2).1
    · cases h
  | .par is es, st, h => by
    unfold isS at h; split at h
    · have h0 := ands h
      have h1 := ands h0.1
      exact s_par S h1.1 h1.2 (offB_ok h0.2)
    · cases h
  | .sto i k e, st, h => by
    unfold isS at h; split at h
    · have h1 := ands h
      have h2 := ands h1.1
      exact s_sto S.q.toScR h2.1 h2.2 (sE k S.c S.q h2.2).1 (sE e S.c S.q h1.2).1
    · cases h
  | .app i e, st, h => by
    unfold isS at h; split at h
    · have h1 := ands h
      have h2 := ands h1.1
      have h3 := ands h2.1
      exact s_app S.q.toScR h3.1 h3.2 h2.2 h1.2 (sE e S.c S.q h1.2).1
    · cases h
  | .expr e, st, h => by
    unfold isS at h; split at h
    · have h1 := ands h
      exact s_expr (by simpa using h1.2) (sE e S.c S.q h1.1).1
    · cases h
  | .ret e, st, h => by
    unfold isS at h; split at h
    · exact s_ret S.q.toScR h (sE e S.c S.q h).1
    · cases h
  | .ret0, st, h => by
    unfold isS at h; split at h
    · exact s_ret0
    · cases h
  | .ite e a b, st, h => by
    unfold isS at h; split at h
    · have h1 := ands h
      have h2 := ands h1.1
      exact s_ite (sE e S.c S.q h2.1).2 (sSs S a h2.2) (sSs S b h1.2)
    · cases h
  | .for t it b, st, h => by
    unfold isS at h; split at h
    · have h0 := ands h
      have h1 := ands h0.1
      have h2 := ands h1.1
      exact s_for S.c S.q.toScR S.hp (sIt it S.c S.q h2.1) (isIt_fold h2.1) h2.2 (offB_ok h0.2) (sSs S b h1.2)
    · cases h
  | .whl e b, st, h => by
    unfold isS at h; split at h
    · have h1 := ands h
      exact s_whl S.hp (sE e S.c S.q h1.1).2 (sSs S b h1.2)
    · cases h
  | .pass, st, h => by
    unfold isS at h; split at h
    · exact s_pass
    · cases h
  | .raise k e, st, h => by
    unfold isS at h; split at h
    · have h1 := ands h
      have h2 := ands h1.1
      exact s_raise S.c S.q.toScR (of_decide_eq_true h2.1) h2.2 h1.2 (sE e S.c S.q h1.2).1
    · cases h
  | .tryE i j e, st, h => by
    unfold isS at h; cases h
  | .never, st, h => PS.impL ps_never fun D σ H hn ⟨F, ts, env, kp, hl, s, post⟩ => (by unfold evalS at post; exact post)
theorem sSs (S : Stm Nm FA CA C X W w sc) : ∀ (m : RF.Ss) {st : List Stmt}, isSs Nm X.N pr sc m st = true → PSs X st (tSs X.K FA CA W w pr σ0 C Wf m)
  | .nil, st, h => by
    unfold isSs at h; split at h
    · exact PSs.impL pss_nil fun D σ H hn ⟨F, ts, env, kp, hl, s, post⟩ => (by
        unfold evalSs at post
        exact post σ H F ⟨rfl, kp⟩ hl s (Sub.refl _))
    · cases h
  | .cons m r, st, h => by
    unfold isSs at h; split at h
    · have h1 := ands h
      refine PSs.impL (pss_cons (sS S m h1.1) (sSs S r h1.2)) fun D σ H hn ⟨F, ts, env, kp, hl, s, post⟩ => ?_
      unfold evalSs at post
      refine ⟨F, ts, env, kp, hl, s, PostS.seq' post fun env4 _ σ4 H4 F4 a4 b4 s4 sf4 post => ⟨F4, ts, env4, a4.2, by rw [b4, a4.1], s4, by rw [a4.1]; exact post⟩⟩
    · cases h
end
end
end RF
/-! RFu: a try at the top of a def's body. -/
namespace RF
open L2 PySem PySem.Spec PyProof.Rows
def isTry (Nm : Names) (N : List Str) (pr : List Nat) (sc : Scope) : S → Stmt → Bool
  | .tryE i j e, st => (match st with
    | .Try [.Expr u _] [.ExceptHandler (some (.Name x _)) (some n) [.Assign [.Name m _] (.Name n2 _) _] _] [] [] _ =>
      isE Nm N e sc u && !isComp u && decide (Nm.fit = some x) && glB sc x && decide (N[i]? = some n) && decide (kd sc n = some .local) && decide (N[j]? = some m) && decide (kd sc m = some .local) && decide (n2 = n) && !pr.contains i && !pr.contains j && !(n == "__debug__") && !(n == "__classdict__")
    | _ => false)
  | _, _ => false
def isTop (Nm : Names) (N : List Str) (pr : List Nat) (sc : Scope) : Ss → List Stmt → Bool
  | .nil, st => (match st with | [] => true | _ => false)
  | .cons s r, st => (match st with | t :: ts => (isS Nm N pr sc s t || isTry Nm N pr sc s t) && isTop Nm N pr sc r ts | _ => false)
section
variable {K : PySem.W.Frag} {FA : Fns} {w : W0} {F F' H H' : Hp}
theorem repL_z : ∀ {σ : L2.St} {env : Env}, env.length = σ.length → (∀ (k : Nat) (o : O), env[k]? = some (some o) → ∃ v d, o = .z d ∧ σ[k]? = some (some v) ∧ Rep K FA F v d) → RepL K FA F H (lv σ env) []
  | [], [], _, _ => .nil
  | [], _ :: _, h, _ => by simp at h
  | _ :: _, [], h, _ => by simp at h
  | u :: σ, x :: env, h, q => by
    have r := repL_z (σ := σ) (env := env) (by simpa using h) fun k o e => by
      obtain ⟨v, d, e1, e2, e3⟩ := q (k + 1) o (by simpa using e)
      exact ⟨v, d, e1, by simpa using e2, e3⟩
    cases x with
    | none => exact r
    | some o =>
      obtain ⟨v, d, rfl, e2, e3⟩ := q 0 o rfl
      obtain rfl : u = some v := by simpa using e2
      exact RepL.cons (A := []) (.z e3) r
/-- the caught error stands for good -/
theorem HR.keepExc (hr : HR w F H) {a dx C : Addr} {v : V} (na : H a = none) (hd : H dx = some (.xd [("value", v)])) :
    ∃ F2, Sub F F2 ∧ HR w F2 (upd H a (RX.exk (.ref C) (some dx) a)) ∧ F2 a = some (RX.exk (.ref C) (some dx) a) ∧ F2 dx = some (.xd [("value", v)]) := by
  have nd : dx ≠ a := fun z => by rw [z, na] at hd; cases hd
  have fa : F a = none := by
    cases e : F a with
    | none => rfl
    | some o => rw [hr.sub _ _ e] at na; cases na
  have fd : ∀ o, F dx = some o → o = .xd [("value", v)] := fun o e => by
    have := hr.sub _ _ e
    rw [hd] at this; exact (Option.some.inj this).symm
  let F2 : Hp := upd (upd F dx (.xd [("value", v)])) a (RX.exk (.ref C) (some dx) a)
  have f2a : F2 a = some (RX.exk (.ref C) (some dx) a) := upd_same
  have f2d : F2 dx = some (.xd [("value", v)]) := by show upd _ _ _ _ = _; rw [upd_ne nd, upd_same]
  have f2n : ∀ b, b ≠ a → b ≠ dx → F2 b = F b := fun b h1 h2 => by show upd _ _ _ _ = _; rw [upd_ne h1, upd_ne h2]
  have sF : Sub F F2 := fun b o e => by
    by_cases h1 : b = a
    · rw [h1, fa] at e; cases e
    · by_cases h2 : b = dx
      · rw [h2] at e ⊢
        rw [fd o e]; exact f2d
      · rw [f2n b h1 h2]; exact e
  refine ⟨F2, sF, ⟨fun b o e => ?_, hr.sub0.trans sF, fun b o e => ?_, fun b o e m => ?_, fun b e => ?_, fun b xs e => ?_, Tabs.stay hr.tabs fun b o e _ => ?_, fun b ps e => ?_⟩, f2a, f2d⟩
  · by_cases h1 : b = a
    · rw [h1] at e ⊢; rw [f2a] at e; rw [upd_same]; exact e
    · rw [upd_ne h1]
      by_cases h2 : b = dx
      · rw [h2] at e ⊢; rw [f2d] at e; rw [hd]; exact e
      · rw [f2n b h1 h2] at e; exact hr.sub b o e
  · by_cases h1 : b = a
    · rw [h1]; exact .inr (.inl (hr.dom a na))
    · by_cases h2 : b = dx
      · rw [h2] at e ⊢
        rw [f2d] at e
        obtain rfl := Option.some.inj e
        cases q : w.H0 dx with
        | none => exact .inr (.inl rfl)
        | some o0 =>
          by_cases m : dx ∈ w.M
          · exact .inr (.inr (.inl m))
          · have k := hr.keep dx o0 q m
            rw [hd] at k
            obtain rfl := Option.some.inj k
            exact .inr (.inr (.inr ⟨rfl, fun xs z => by cases z⟩))
      · rw [f2n b h1 h2] at e; exact hr.new b o e
  · have k := hr.keep b o e m
    rw [upd_ne (fun z => by rw [z, na] at k; cases k)]; exact k
  · by_cases h1 : b = a
    · rw [h1, upd_same] at e; cases e
    · rw [upd_ne h1] at e; exact hr.dom b e
  · by_cases h1 : b = a
    · rw [h1, upd_same] at e; exact absurd (Option.some.inj e) RX.exk_tup
    · rw [upd_ne h1] at e
      exact sF b _ (hr.tups b xs e)
  · rw [upd_ne (fun z => by rw [z, na] at e; cases e)]; exact e
  · by_cases h1 : b = a
    · rw [h1, f2a] at e; exact RX.exk_tbl (Option.some.inj e)
    · by_cases h2 : b = dx
      · rw [h2, f2d] at e; cases e
      · rw [f2n b h1 h2] at e; exact hr.ntb b ps e
end
theorem stay_len (env : Env) : (stay env).length = env.length := by unfold stay; simp
theorem stay_get {env : Env} {k : Nat} {o : O} (h : (stay env)[k]? = some (some o)) : ∃ d, o = .z d ∧ env[k]? = some (some (.z d)) := by
  unfold stay at h
  rw [List.getElem?_map] at h
  cases e : env[k]? with
  | none => rw [e] at h; cases h
  | some x =>
    rw [e] at h
    cases x with
    | none => simp at h
    | some o' => cases o' <;> simp at h; exact ⟨_, h.symm, rfl⟩
theorem Cok.tr {Nm : Names} {FA : Fns} {CA : Nat → Option Addr} {C : Cfg} {X : Cx} {W W' : WX} (c : Cok Nm FA CA C X W) {pn : List (Addr × Obj)} {xe : Value → Shared → Prop} (tk : Takes (X.tr pn xe) W') : Cok Nm FA CA C (X.tr pn xe) W' :=
  ⟨c.calm, c.nd, c.un, tk, c.fns, c.lam, c.has, c.kns, c.blt, c.gd, c.rm, c.ca, c.cls, fun k a h => let q := c.clf k a h; ⟨q.ini, q.xf, q.ex⟩, c.isc, c.fit⟩
theorem ScM.tr {Nm : Names} {FA : Fns} {X : Cx} {w : W0} {sc : Scope} (q : ScM Nm FA X w sc) {pn : List (Addr × Obj)} {xe : Value → Shared → Prop} : ScM Nm FA (X.tr pn xe) w sc :=
  ⟨⟨q.loc, q.cell, q.free, q.glob⟩, fun z => let m := q.mks z; ⟨m.tab, m.ml⟩⟩
/-- the frame of a def's own body -/
structure Own (X : Cx) : Prop where
  stack : X.stack = X.env :: X.outer
  frame : X.env.frame = some X.env.locals
  ex : X.ex = []
section
variable (K : PySem.W.Frag) (FA : Fns) (CA : Nat → Option Addr) (W : WX) (w : W0) (pr : List Nat) (σ0 : L2.St)
def tTop (C : Cfg) (Wf : Nat) (m : Ss) : TS := fun D σ H => ∃ F env, Kp pr σ0 σ ∧ env.length = σ.length ∧ Hs K FA w F H (lv σ env ++ []) ∧ PostS K FA CA W w pr σ0 D σ.length F [] (evalSs C Wf m env)
end
section
variable {Nm : Names} {FA : Fns} {CA : Nat → Option Addr} {C : Cfg} {X : Cx} {W : WX} {w : W0} {sc : Scope} {Wf : Nat}
variable {σ : L2.St} {F F' F1 H H' H1 : Hp} {ts : List (Option V × O)} {Q : VK} {D : Ends} {n : Nat} {pu : Bool} {pr : List Nat} {σ0 : L2.St}
theorem s_try (S : Stm Nm FA CA C X W w sc) (O : Own X) {i j : Nat} {e : RF.X} {st : Stmt} (h : isTry Nm X.N pr sc (.tryE i j e) st = true) {r : Ss} :
    ∃ t, PS X st t ∧ ∀ (D : Ends) (σ : L2.St) (H : Hp), σ.length = X.N.length → tTop X.K FA CA W w pr σ0 C Wf (.cons (.tryE i j e) r) D σ H → t { D with nx := fun σ' H' => tTop X.K FA CA W w pr σ0 C Wf r D σ' H' } σ H := by
  unfold isTry at h; simp only at h; split at h
  · rename_i u p0 x p1 nn m p2 n2 p3 p4 p5 p6
    simp only [Bool.and_eq_true, decide_eq_true_eq, Bool.not_eq_true'] at h
    obtain ⟨⟨⟨⟨⟨⟨⟨⟨⟨⟨⟨⟨h1, h2⟩, h3⟩, h4⟩, h5⟩, h6⟩, h7⟩, h8⟩, h9⟩, h10⟩, h11⟩, h12⟩, h13⟩ := h
    subst h9
    obtain ⟨b, mb, hb⟩ := S.c.fit x h3
    obtain ⟨g1, g2⟩ := glB_ok S.q.toScR h4
    have body : ∀ (W' : WX) (pn : List (Addr × Obj)) (xe : Value → Shared → Prop), Takes (X.tr pn xe) W' → PassesOwn (model X.prog X.w) X.A X.env xe → PSs (X.tr pn xe) [.Expr u p0] (tSeq (tDrop (tE X.K FA CA W' w C e)) tNext) := fun W' pn xe tk _ =>
      pss_cons (ps_expr (sE (X := X.tr pn xe) (W := W') e (S.c.tr tk) S.q.tr h1).1 (swapsNo h2)) pss_nil
    refine ⟨_, RX.ps_try_keep O.stack O.frame O.ex S.c.nd h5 (S.q.loc _ h6) h7 (S.q.loc _ h8) h12 h13 ⟨g1, g2, .inl mb⟩ body, fun D σ H hn ⟨F, env, kp, hl, s, post⟩ => ?_⟩
    refine ⟨F, [], env, hl, s, ?_⟩
    have hi : i ∉ pr := by simpa using h10
    have hj : j ∉ pr := by simpa using h11
    unfold evalSs evalS at post
    cases ee : evalE C e env with
    | no => rw [ee] at post; exact False.elim post
    | ok o env1 =>
      rw [ee] at post
      exact fun v H' F' hl' s' sF _ => ⟨F', env1, kp, hl', s'.tail, PostS.rebase post sF⟩
    | ex k ds =>
      rw [ee] at post
      match ds, post with
      | [d], post =>
        intro H' F' od a hca sF hr x
        refine ⟨hb k a (by rw [← S.c.ca]; exact hca), fun a' na => ?_⟩
        rcases x with x | ⟨dx, v, d', e1, e2, e3, e4⟩
        · cases x
        · cases e1
          subst e2
          obtain ⟨F2, sF2, hr2, f2a, f2d⟩ := hr.keepExc (C := a) na e3
          have il : i < σ.length := by rw [hn]; exact (List.getElem?_eq_some_iff.mp h5).1
          have jl : j < σ.length := by rw [hn]; exact (List.getElem?_eq_some_iff.mp h7).1
          have rl : RepL X.K FA F2 (upd H' a' (RX.exk (.ref a) (some dx) a')) (lv (((σ.set i (some (.ref a'))).set j (some (.ref a'))).set i none) (((stay env).set j (some (.z (.exc k [d])))).set i none)) [] := by
            refine repL_z (by simp [stay_len, hl]) fun q o hq => ?_
            by_cases q1 : q = i
            · subst q1
              rw [List.getElem?_set_self (by simp [stay_len, hl, il])] at hq; cases hq
            · rw [List.getElem?_set_ne (Ne.symm q1)] at hq
              rw [List.getElem?_set_ne (Ne.symm q1)]
              by_cases q2 : q = j
              · subst q2
                rw [List.getElem?_set_self (by simp [stay_len, hl, jl])] at hq
                obtain rfl := Option.some.inj (Option.some.inj hq)
                exact ⟨.ref a', _, rfl, by rw [List.getElem?_set_self (by simpa using jl)], .exc (by rw [← S.c.ca]; exact hca) f2a f2d (e4.mono sF2)⟩
              · rw [List.getElem?_set_ne (Ne.symm q2)] at hq
                rw [List.getElem?_set_ne (Ne.symm q2), List.getElem?_set_ne (Ne.symm q1)]
                obtain ⟨d0, rfl, hq0⟩ := stay_get hq
                obtain ⟨v0, e5, r5⟩ := s.slotRep hl (show getE env q = some (.z d0) by unfold getE; rw [hq0]; rfl)
                exact ⟨v0, d0, rfl, e5, (r5.mono sF).mono sF2⟩
          refine ⟨F2, ((stay env).set j (some (.z (.exc k [d])))).set i none, ((kp.set hi).set hj).set hi, by simp [stay_len, hl], ⟨hr2, [], by rw [List.append_nil]; exact rl, List.nodup_nil, fun _ m => nomatch m⟩, ?_⟩
          have el : (((σ.set i (some (.ref a'))).set j (some (.ref a'))).set i none).length = σ.length := by simp
          rw [el]
          exact PostS.rebase post (sF.trans sF2)
      | [], post => exact False.elim post
      | _ :: _ :: _, post => exact False.elim post
  · cases h
theorem sTop (S : Stm Nm FA CA C X W w sc) (O : Own X) : ∀ (m : RF.Ss) {st : List Stmt}, isTop Nm X.N pr sc m st = true → ∃ t, PSs X st t ∧ ∀ (D : Ends) (σ : L2.St) (H : Hp), σ.length = X.N.length → tTop X.K FA CA W w pr σ0 C Wf m D σ H → t D σ H
  | .nil, st, h => by
    unfold isTop at h; split at h
    · exact ⟨_, pss_nil, fun D σ H hn ⟨F, env, kp, hl, s, post⟩ => (by
        unfold evalSs at post
        exact post σ H F ⟨rfl, kp⟩ hl s (Sub.refl _))⟩
    · cases h
  | .cons m r, st, h => by
    unfold isTop at h; split at h
    · rename_i t ts
      obtain ⟨h1, h2⟩ := ands h
      obtain ⟨t2, p2, i2⟩ := sTop S O r h2
      have p3 : PSs X ts (tTop X.K FA CA W w pr σ0 C Wf r) := PSs.impL p2 i2
      rcases Bool.or_eq_true_iff.mp h1 with h1 | h1
      · refine ⟨_, pss_cons (sS (σ0 := σ0) (Wf := Wf) S m h1) p3, fun D σ H hn ⟨F, env, kp, hl, s, post⟩ => ?_⟩
        unfold evalSs at post
        exact ⟨F, [], env, kp, hl, s, PostS.seq' post fun env4 _ σ4 H4 F4 a4 b4 s4 sf4 post => ⟨F4, env4, a4.2, by rw [b4, a4.1], s4, by rw [a4.1]; exact post⟩⟩
      · cases m with
        | tryE i j e =>
          obtain ⟨t1, p1, i1⟩ := s_try (σ0 := σ0) (Wf := Wf) S O h1 (r := r)
          exact ⟨_, pss_cons p1 p3, fun D σ H hn q => i1 D σ H hn q⟩
        | _ => simp [isTry] at h1
    · cases h
end
end RF
/-! RFs: defs. -/
namespace RF
open L2 PySem PySem.Spec PyProof.Rows
theorem start_get {N : List Str} {vs : List V} {i : Nat} {v : V} (h : vs[i]? = some v) : (start N vs)[i]? = some (some v) := by
  have hi := (List.getElem?_eq_some_iff.mp h).1
  unfold L2.start
  rw [List.getElem?_append_left (by simpa using hi), List.getElem?_map, h]
  rfl
theorem lv_nones : ∀ (σ : L2.St) (n : Nat), lv σ (List.replicate n none) = []
  | [], _ => by simp [lv]
  | _ :: _, 0 => by simp [lv]
  | u :: σ, n + 1 => by rw [List.replicate_succ, lv_none]; exact lv_nones σ n
theorem lv_start {N : List Str} : ∀ {vs : List V} {os : List O} {τ : L2.St} {n : Nat}, vs.length = os.length → lv (vs.map some ++ τ) (os.map some ++ List.replicate n none) = (vs.map some).zip os
  | [], [], τ, n, _ => lv_nones τ n
  | [], _ :: _, _, _, h => by simp at h
  | _ :: _, [], _, _, h => by simp at h
  | v :: vs, o :: os, τ, n, h => by
    show lv (some v :: (vs.map some ++ τ)) (some o :: (os.map some ++ List.replicate n none)) = (some v, o) :: (vs.map some).zip os
    rw [lv_some, lv_start (N := N) (by simpa using h)]
theorem modeOk_len : ∀ {ms : List Bool} {os : List O}, modeOk ms os = true → os.length = ms.length
  | [], [], _ => rfl
  | [], _ :: _, h => by simp [modeOk] at h
  | _ :: _, [], h => by simp [modeOk] at h
  | false :: ms, .z d :: os, h => by
    have h' : modeOk ms os = true := h
    simp [modeOk_len h']
  | false :: ms, .l _ :: os, h => by simp [modeOk] at h
  | false :: ms, .t _ :: os, h => by simp [modeOk] at h
  | true :: ms, .l us :: os, h => by
    have h' : (us.all O.isZ && modeOk ms os) = true := h
    simp [modeOk_len (ands h').2]
  | true :: ms, .z _ :: os, h => by simp [modeOk] at h
  | true :: ms, .t _ :: os, h => by simp [modeOk] at h
/-- the parameters that are changed -/
def prOf (ms : List Bool) : List Nat := (List.range ms.length).filter fun i => ms.getD i false
theorem prOf_mem {ms : List Bool} {j : Nat} (h : ms[j]? = some true) : j ∈ prOf ms := by
  unfold prOf
  rw [List.mem_filter, List.mem_range]
  have hi := (List.getElem?_eq_some_iff.mp h).1
  exact ⟨hi, by simp [List.getD, h]⟩
section
variable {K : PySem.W.Frag} {FA : Fns} {CA : Nat → Option Addr} {w : W0} {F H : Hp} {σ : L2.St}
theorem Hs.dropL : ∀ {l ts : List (Option V × O)}, Hs K FA w F H (l ++ ts) → Hs K FA w F H ts
  | [], _, s => s
  | _ :: l, ts, s => Hs.dropL (l := l) (Hs.tail s)
theorem outs_set : ∀ {ms : List Bool} {env : Env} {i k : Nat} {o : Option O}, i < k → outs? (env.set i o) ms k = outs? env ms k
  | [], _, _, _, _, _ => rfl
  | false :: ms, env, i, k, o, h => outs_set (ms := ms) (Nat.lt_succ_of_lt h)
  | true :: ms, env, i, k, o, h => by
    have ih := outs_set (ms := ms) (env := env) (o := o) (Nat.lt_succ_of_lt h)
    show (match getE (env.set i o) k with | some (.l os) => (outs? (env.set i o) ms (k + 1)).map (O.l os :: ·) | _ => none) = (match getE env k with | some (.l os) => (outs? env ms (k + 1)).map (O.l os :: ·) | _ => none)
    rw [getE_set_ne (Nat.ne_of_lt h), ih]
theorem outs_ok : ∀ {ms : List Bool} {k : Nat} {vs : List V} {outs : List O} {env : Env} {ts : List (Option V × O)}, env.length = σ.length → outs? env ms k = some outs → (∀ j v, ms[j]? = some true → vs[j]? = some v → σ[k + j]? = some (some v)) →
    vs.length = ms.length → Hs K FA w F H (lv σ env ++ ts) → Hs K FA w F H (outsOf ms vs outs ++ ts)
  | [], k, vs, outs, env, ts, hl, e, hv, hn, s => by
    have : outsOf [] vs outs = [] := by cases vs <;> rfl
    rw [this]
    exact s.dropL
  | _ :: _, _, [], _, _, _, _, _, _, hn, _ => by simp at hn
  | false :: ms, k, v :: vs, outs, env, ts, hl, e, hv, hn, s => by
    have e : outs? env ms (k + 1) = some outs := e
    show Hs K FA w F H (outsOf ms vs outs ++ ts)
    exact outs_ok hl e (fun j v h1 h2 => by have := hv (j + 1) v h1 h2; rw [← this]; congr 1; omega) (by simpa using hn) s
  | true :: ms, k, v :: vs, outs, env, ts, hl, e, hv, hn, s => by
    have e : (match getE env k with | some (.l os) => (outs? env ms (k + 1)).map (O.l os :: ·) | _ => none) = some outs := e
    cases e1 : getE env k with
    | none => rw [e1] at e; cases e
    | some o =>
      rw [e1] at e
      cases o with
      | z d => cases e
      | t os => cases e
      | l os =>
        have e : (outs? env ms (k + 1)).map (O.l os :: ·) = some outs := e
        cases e2 : outs? env ms (k + 1) with
        | none => rw [e2] at e; cases e
        | some outs2 =>
          rw [e2] at e
          obtain rfl := Option.some.inj e
          obtain ⟨v', e3, s1⟩ := s.take hl e1
          have e4 := hv 0 v rfl rfl
          rw [Nat.add_zero, e3] at e4
          obtain rfl : v' = v := by simpa using e4
          have e5 : outs? (env.set k none) ms (k + 1) = some outs2 := by rw [← e2]; exact outs_set (Nat.lt_succ_self k)
          have s2 := outs_ok (by rw [List.length_set]; exact hl) e5 (fun j v h1 h2 => by have := hv (j + 1) v h1 h2; rw [← this]; congr 1; omega) (by simpa using hn) s1.toTemp
          exact s2.perm List.perm_middle
end
/-! ### the defs of the text -/
structure TopOk (P : Program) (K : PySem.W.Frag) (mg : Str → Option Value) (base : Heap) (Nm : Names) (FA : Fns) (FD : Nat → FuncData) (T : Nat → Option Fd) : Prop where
  mks : Nm.mks = false
  fns : ∀ f a, FA f = some a → ∃ x, Nm.fn f = some x ∧ mg x = some (.ref a) ∧ PySem.W.keepIn K (.ref a) = true ∧ Binds K (FD f) (Nm.pars f) [] ∧
    (∀ n ks perm, (f, n, ks, perm) ∈ Nm.kw → ∀ (s : Shared) (us ws : List Value), K.In s.heap → us.length = n → ws.length = ks.length → BindsTo s (FD f) ⟨us, ks.zip ws⟩ ((Nm.pars f).zip (permL .none us ws perm))) ∧
    ∃ nm qual params body scope dvs kws F N, FunD K nm qual params body scope dvs kws a (FD f) ∧ T f = some F ∧ FnScope N (Nm.pars f) scope ∧ isTop Nm N (prOf F.modes) scope F.body body = true ∧ F.modes.length = (Nm.pars f).length ∧ F.slots = N.length
  lam : ∀ k L, FA.ml k L → ∃ (ps N : List Str) (e : X), (∀ (c : Addr) (pm ctv : Value) (us : List Value), us.length = ps.length → bindArgs (L.fd c pm ctv) ⟨us, []⟩ = pure (ps.zip us)) ∧
    T k = some ⟨List.replicate ps.length false, N.length, .cons (.ret e) .nil⟩ ∧ (∀ i, e ≠ .v i) ∧ NdefX.nscB N ps [] L.scope = true ∧ isE { Nm with lamB := fun _ _ _ _ => false } N e L.scope L.body = true
  has : ∀ f x, Nm.fn f = some x → ∃ a, FA f = some a
  kns : ∀ j x i, Nm.kn j = some (x, i) → ∃ t, mg x = some (.int i t)
  blt : ∀ x ∈ bltNames, mg x = none
  cls : ∀ c x, Nm.cl c = some x → ∃ a, FA.ca c = some a ∧ mg x = some (.ref a)
  clf : ∀ c a, FA.ca c = some a → (∃ fI cc F, RX.IniF P K mg base a fI cc F) ∧ XfC K a ∧ ExcC K a
  isc : ∀ c a k b, FA.ca c = some a → FA.ca k = some b → PySem.W.kitOne K (.ref a) (.ref b) = some (c == k)
  fit : ∀ x, Nm.fit = some x → ∃ b, mg x = some (.ref b) ∧ ∀ c a, FA.ca c = some a → PySem.W.exmOne K (.ref a) (.ref b) = some true
/-- a promise with tables -/
def spGT (TM : List Addr) (TT : List (Addr × Str)) (K : PySem.W.Frag) (FA : Fns) (CA : Nat → Option Addr) (ms : List Bool) (r : List O → CR) : Sp := fun vs H Q E =>
  ∃ (F : Hp) (os : List O), vs.length = ms.length ∧ modeOk ms os = true ∧ Hs K FA ⟨H, TM ++ topA vs os, F, TT⟩ F H ((vs.map some).zip os) ∧
    match r os with
    | .rt o outs => ∀ v H' F', Sub F F' → Hs K FA ⟨H, TM ++ topA vs os, F, TT⟩ F' H' ((some v, o) :: outsOf ms vs outs) → Q v H'
    | .ex c ds => ∀ H' F' od a, CA c = some a → Sub F F' → HR ⟨H, TM ++ topA vs os, F, TT⟩ F' H' → ExcAt K FA F' H' ds od → E (.ref a) od H'
    | .no => False
section
variable {K : PySem.W.Frag} {FA : Fns} {CA : Nat → Option Addr} {W : WX} {w0 : W0} {H : Hp} {Q : VK} {E : XK} {N : List Str} {vs : List V} {os : List O} {F0 : Hp} {C : Cfg} {Wf : Nat} {F : Fd}
/-- from a def's promise to its body's reading -/
theorem body_start (h1 : vs.length = F.modes.length) (hos : os.length = F.modes.length) (hle : F.modes.length ≤ N.length) (hsl : F.slots = N.length) (h3 : Hs K FA w0 F0 H ((vs.map some).zip os)) (hW : ∀ a od σ H', E a od H' → W a od σ H')
    (h4 : match runF C Wf F os with
      | .rt o outs => ∀ v H' F', Sub F0 F' → Hs K FA w0 F' H' ((some v, o) :: outsOf F.modes vs outs) → Q v H'
      | .ex c ds => ∀ H' F' od a, CA c = some a → Sub F0 F' → HR w0 F' H' → ExcAt K FA F' H' ds od → E (.ref a) od H'
      | .no => False) :
    tTop K FA CA W w0 (prOf F.modes) (L2.start N vs) C Wf F.body { nx := fun _ H' => Q .non H', rt := Q } (L2.start N vs) H := by
  refine ⟨F0, os.map some ++ List.replicate (F.slots - os.length) none, fun i _ => rfl, ?_, ?_, ?_⟩
  · unfold L2.start
    simp only [List.length_append, List.length_map, List.length_replicate]
    rw [h1, hos, hsl]
  · rw [List.append_nil]
    unfold L2.start
    rw [lv_start (N := N) (by rw [h1, hos])]
    exact h3
  · unfold runF at h4
    rw [if_pos hos] at h4
    have hlen : (L2.start N vs).length = N.length := by
      unfold L2.start
      simp only [List.length_append, List.length_map, List.length_replicate]
      omega
    have kp : ∀ {σ' : L2.St}, Kp (prOf F.modes) (L2.start N vs) σ' → ∀ j v, F.modes[j]? = some true → vs[j]? = some v → σ'[0 + j]? = some (some v) := fun {σ'} k j v h1 h2 => by
      rw [Nat.zero_add, k j (prOf_mem h1)]
      exact start_get h2
    revert h4
    generalize evalSs C Wf F.body (os.map some ++ List.replicate (F.slots - os.length) none) = res
    intro h4
    cases res with
    | nx env =>
      intro σ' H' F' hk hl s sF
      have h4 : (match (match outs? env F.modes 0 with | some outs => CR.rt (.z .non) outs | none => .no) with
        | .rt o outs => ∀ v H' F', Sub F0 F' → Hs K FA w0 F' H' ((some v, o) :: outsOf F.modes vs outs) → Q v H'
        | .ex c ds => ∀ H' F' od a, CA c = some a → Sub F0 F' → HR w0 F' H' → ExcAt K FA F' H' ds od → E (.ref a) od H'
        | .no => False) := h4
      cases eo : outs? env F.modes 0 with
      | none => rw [eo] at h4; exact False.elim h4
      | some outs =>
        rw [eo] at h4
        have s2 := outs_ok (by rw [hl, hk.1]) eo (kp hk.2) h1 s
        rw [List.append_nil] at s2
        exact h4 .non H' F' sF (s2.add .non)
    | rt o env =>
      intro v σ' H' F' hk hl s sF
      have h4 : (match (match outs? env F.modes 0 with | some outs => CR.rt o outs | none => .no) with
        | .rt o outs => ∀ v H' F', Sub F0 F' → Hs K FA w0 F' H' ((some v, o) :: outsOf F.modes vs outs) → Q v H'
        | .ex c ds => ∀ H' F' od a, CA c = some a → Sub F0 F' → HR w0 F' H' → ExcAt K FA F' H' ds od → E (.ref a) od H'
        | .no => False) := h4
      cases eo : outs? env F.modes 0 with
      | none => rw [eo] at h4; exact False.elim h4
      | some outs =>
        rw [eo] at h4
        have s2 := outs_ok (by rw [hl, hk.1]) eo (kp hk.2) h1 s.toTemp
        have s3 := s2.perm List.perm_middle
        rw [List.append_nil] at s3
        exact h4 v H' F' sF s3
    | ex c ds => exact fun σ' H' F' od a ea sF hr x => hW _ _ _ _ (h4 H' F' od a ea sF hr x)
    | no => exact h4
end
theorem Cok.mk' {Nm : Names} {FA : Fns} {FD : Nat → FuncData} {T : Nat → Option Fd} {Wf n : Nat} {X : Cx} {W : WX} (t : TopOk X.prog X.K X.mg X.base Nm FA FD T) (m : Bool) (lB : Nat → Arguments → Scope → Expr → Bool) (hc : X.calm = true) (hN : X.N.Nodup) (hu : X.A.units + 65 < cLine) (tk : Takes X W) (hr : Room (n + 2) X.A) (hg : X.A.guards = some [])
    (h1 : ∀ f a, FA f = some a → FnG X.prog X.w X.K X.mg X.base (L2.CX X.prog X.w) (n + 2) a (FD f) (Nm.pars f) (spG X.K FA FA.ca (sigT T f) (G T Wf n f)))
    (h2 : ∀ k L, FA.ml k L → ∃ ps : List Str, (∀ (c : Addr) (pm ctv : Value) (us : List Value), us.length = ps.length → bindArgs (L.fd c pm ctv) ⟨us, []⟩ = pure (ps.zip us)) ∧
      ∀ f c pm ctv, FnG X.prog X.w X.K X.mg X.base (L2.CX X.prog X.w) (n + 2) f (L.fd c pm ctv) ps (spK X.K FA FA.ca (sigT T k) (G T Wf n k) f c L pm ctv)) :
    Cok { Nm with mks := m, lamB := lB } FA FA.ca ⟨G T Wf n, sigT T⟩ X W := by
  refine ⟨hc, hN, hu, tk, fun g b eb => ?_, fun k L hk => ?_, t.has, t.kns, t.blt, hg, hr.mono (by omega), rfl, t.cls, fun c a h => let q := t.clf c a h; ⟨q.1, q.2.1, q.2.2⟩, t.isc, t.fit⟩
  · obtain ⟨x, e1, e2, e3, e4, e5, _⟩ := t.fns g b eb
    exact ⟨x, n + 2, FD g, e1, e2, e3, e4, hr, h1 g b eb, e5⟩
  · obtain ⟨ps, b, f⟩ := h2 k L hk
    exact ⟨n + 2, ps, hr, b, f⟩
/-- a def by its body, where no repr runs around -/
theorem fnG_of {CX : CXT} {P : Program} {w : World} {K : PySem.W.Frag} {mg : Str → Option Value} {base : Heap} {k : Nat} {f : Addr} {name qual : Str} {params : Arguments} {body : List Stmt} {scope : Scope} {dV kV doc pm cdv ct oc : Value} {an od : Option Addr}
    {osl : Array (Option Value)} {N ps : List Str} {sp : Sp} (lk : K.lookup f = some ⟨oc, od, .func (PySem.W.fnOf name qual params body scope dV kV doc pm an cdv ct), osl⟩) (hcd : PySem.W.codeIn K cdv qual = true) (S : FnScope N ps scope) (len : ∀ vs H Q E, sp vs H Q E → vs.length = ps.length)
    (hb : ∀ (A : Around) (outer : List PySem.Env) (s : Shared) (H : Hp) (vs : List V) (Q : VK) (E : XK), Room k (A.deeper (envOfC qual scope s.heap.objs.size f cdv)) → A.guards = some [] → sp vs H Q E →
      ∃ t, PSs (cxOf CX P w K mg base N qual scope f cdv A outer s H E) body t ∧ t { nx := fun _ H' => Q .non H', rt := Q } (L2.start N vs) H) :
    FnG P w K mg base CX (k + 1) f (PySem.W.fnOf name qual params body scope dV kV doc pm an cdv ct) ps sp := by
  refine ⟨len, fun A outer s H args us vs Q E hr hg e0 bd rv z => ?_⟩
  obtain ⟨t, pt, qt⟩ := hb A outer s H vs Q E (hr.deeper _) hg z
  have stays : ∀ b o, base.get? b = some o → s.heap.get? b = some o := fun b o e => (e0.bs b o e).1
  have KX := e0.mod.kin.keeps stays
  refine codeAny_call_function hr.depth (KX _ _ lk) rfl S.co S.gen rfl (PySem.W.codeRec_of KX hcd) (bd _ _ _ _ (wpAny_newFunctionEnv_cells S.kind (fun y hy => ?_) fun env he s1 x => ?_))
  · rcases S.par y.1 (List.of_mem_zip (a := y.1) (b := y.2) hy).1 with q | q
    · exact .inl q
    · exact .inr ⟨q, PySem.W.cellsFrom_some _ _ _ (.inl q)⟩
  · subst he
    refine ⟨(e0.mod.nolimit.keeps stays).keeps x.toInCall.keep, codeAny_func (wpAny_mono (pt.run [] s1 _ H _ (inv_start S hr.hd e0 (len _ _ _ _ z) rv x) qt) (fun fl s' q => ?_) fun e s' q => q)⟩
    match fl, q with
    | .ret u, ⟨v, _, H', J, r, q⟩ => exact ⟨v, H', J.os, J.bare, J.base, J.hok, r, q⟩
    | .next, ⟨_, H', J, q⟩ => exact ⟨V.non, H', J.os, J.bare, J.base, J.hok, rfl, q⟩
    | .brk, ⟨_, _, _, q⟩ => exact False.elim q
    | .cont, ⟨_, _, _, q⟩ => exact False.elim q
section
variable {P : Program} {wd : World} {K : PySem.W.Frag} {mg : Str → Option Value} {base : Heap} {Nm : Names} {FA : Fns} {CA : Nat → Option Addr} {FD : Nat → FuncData} {T : Nat → Option Fd} {Wf : Nat}
theorem evalG {n f : Nat} {F : Fd} (hT : T f = some F) (os : List O) : G T Wf (n + 1) f os = runF ⟨G T Wf n, sigT T⟩ Wf F os := by
  unfold G; rw [hT]; rfl
theorem TopOk.all (t : TopOk P K mg base Nm FA FD T) : ∀ n, (∀ f a, FA f = some a → FnG P wd K mg base (L2.CX P wd) (n + 2) a (FD f) (Nm.pars f) (spG K FA FA.ca (sigT T f) (G T Wf n f))) ∧
    (∀ k L, FA.ml k L → ∃ ps : List Str, (∀ (c : Addr) (pm ctv : Value) (us : List Value), us.length = ps.length → bindArgs (L.fd c pm ctv) ⟨us, []⟩ = pure (ps.zip us)) ∧
      ∀ f c pm ctv, FnG P wd K mg base (L2.CX P wd) (n + 2) f (L.fd c pm ctv) ps (spK K FA FA.ca (sigT T k) (G T Wf n k) f c L pm ctv))
  | 0 => by
    refine ⟨fun f a e => ?_, fun k L hk => ?_⟩
    · obtain ⟨x, e1, e2, e3, e4, e5, nm, qual, params, body, scope, dvs, kws, F, N, hF, hT, S, hs, hm, hsl⟩ := t.fns f a e
      have hsig : sigT T f = F.modes := by unfold sigT; rw [hT]
      exact ⟨fun vs H Q E ⟨F0, os, h1, _⟩ => by rw [h1, hsig, hm], fun A outer s H args us vs Q E hr hg he hb hv ⟨F0, os, h1, h2, h3, h4⟩ => False.elim h4⟩
    · obtain ⟨ps, N, e, hb, hT, hv, S, hi⟩ := t.lam k L hk
      have hsig : sigT T k = List.replicate ps.length false := by unfold sigT; rw [hT]
      exact ⟨ps, hb, fun f c pm ctv => ⟨fun vs H Q E ⟨_, _, F0, os, h1, _⟩ => by rw [h1, hsig, List.length_replicate], fun A outer s H args us vs Q E hr hg he hb hv ⟨_, _, F0, os, h1, h2, h3, h4⟩ => False.elim h4⟩⟩
  | n + 1 => by
    obtain ⟨ihF, ihL⟩ := t.all n
    refine ⟨fun f a e => ?_, fun k L hk => ?_⟩
    · obtain ⟨x, e1, e2, e3, e4, e5, nm, qual, params, body, scope, dvs, kws, F, N, hF, hT, S, hs, hm, hsl⟩ := t.fns f a e
      have hsig : sigT T f = F.modes := by unfold sigT; rw [hT]
      have hle : (Nm.pars f).length ≤ N.length := by
        have := congrArg List.length S.pre
        rw [List.length_take] at this
        omega
      obtain ⟨oc, od, dV, kV, doc, pm, an, cdv, ct, osl, efd, lk, hcd, _, _⟩ := hF.ex
      rw [efd] at lk ⊢
      refine fnG_of lk hcd S (fun vs H Q E ⟨F0, os, h1, _⟩ => by rw [h1, hsig, hm]) fun A outer s H vs Q E hr hg ⟨F0, os, h1, h2, h3, h4⟩ => ?_
      rw [hsig] at h1 h2
      have hos := modeOk_len h2
      let X := cxOf (L2.CX P wd) P wd K mg base N qual scope a cdv A outer s H E
      let W : WX := fun cls d _ H => E cls d H
      have tk : Takes X W := takes_of (X := X) rfl rfl rfl rfl
      have c : Cok { Nm with mks := Nm.mks, lamB := Nm.lamB } FA FA.ca ⟨G T Wf n, sigT T⟩ X W := Cok.mk' (X := X) t Nm.mks Nm.lamB rfl S.nd (by have := hr.un; show (A.deeper _).units + 65 < cLine; omega) tk hr hg ihF ihL
      have St : Stm Nm FA FA.ca ⟨G T Wf n, sigT T⟩ X W ⟨H, topA vs os, F0, []⟩ scope := ⟨c, ⟨⟨fun x h => h, fun x h => ⟨h, rfl⟩, fun x h => .inr h, fun x h => h⟩, fun z => by rw [t.mks] at z; cases z⟩, S.kind, passes_of (X := X) rfl⟩
      rw [evalG hT, hsig] at h4
      obtain ⟨tt, pt, it⟩ := sTop (X := X) (Wf := Wf) (pr := prOf F.modes) (σ0 := L2.start N vs) St ⟨rfl, rfl, rfl⟩ F.body hs
      refine ⟨tt, pt, it _ _ _ ?_ (body_start (CA := FA.ca) h1 hos (by rw [hm]; exact hle) hsl h3 (fun a od σ H' z => z) h4)⟩
      show (L2.start N vs).length = N.length
      unfold L2.start
      simp only [List.length_append, List.length_map, List.length_replicate]
      omega
    · obtain ⟨ps, N, e, hb, hT, hv, S', hi⟩ := t.lam k L hk
      have S := NdefX.nscope_by S'
      have hsig : sigT T k = List.replicate ps.length false := by unfold sigT; rw [hT]
      refine ⟨ps, hb, fun f cc pm ctv => ⟨fun vs H Q E ⟨_, _, F0, os, h1, _⟩ => by rw [h1, hsig, List.length_replicate], fun A outer s H args us vs Q E hr hg e0 hbind r ⟨hf, hcd, F0, os, h1, h2, h3, h4⟩ => ?_⟩⟩
      rw [hsig] at h1 h2
      have hos := modeOk_len h2
      rw [List.length_replicate] at h1 hos
      obtain ⟨⟨od, sl, ho⟩, _, _⟩ := e0.hok f _ hf
      obtain ⟨⟨oc, cvs, tq, c1, c2, c3⟩, _, _⟩ := e0.hok cc _ hcd
      have lim : s.heap.NoLimit := e0.mod.nolimit.keeps fun b o q => (e0.bs b o q).1
      let NF0 : NdefX.NF := ⟨"<lambda>", L.qual, L.params, [], L.scope, [], cc⟩
      let X := NdefX.ncx (L2.CX P wd) P wd K mg base N NF0 f A outer s H E
      let W : WX := fun cls d _ H => E cls d H
      have tk : Takes X W := takes_of (X := X) rfl rfl rfl rfl
      have hr' : Room (n + 2) X.A := hr.deeper _
      have c : Cok { Nm with mks := Nm.mks, lamB := fun _ _ _ _ => false } FA FA.ca ⟨G T Wf n, sigT T⟩ X W := Cok.mk' (X := X) t Nm.mks (fun _ _ _ _ => false) rfl S.nd (by have := hr'.un; omega) tk hr' hg ihF ihL
      have q : ScM { Nm with lamB := fun _ _ _ _ => false } FA X ⟨H, topA vs os, F0, []⟩ L.scope := ⟨⟨fun x h => h, fun x h => absurd rfl (S.nocell _ (PySem.mem_of_lookup h)), fun x h => .inr h, fun x h => h⟩, fun z => by rw [t.mks] at z; cases z⟩
      rw [evalG hT, hsig] at h4
      unfold runF at h4
      rw [if_pos (by show os.length = (List.replicate ps.length false).length; rw [List.length_replicate]; exact hos)] at h4
      refine PySem.W.kla_callFunE hr.depth ho rfl S.co S.gen rfl ⟨cc, oc, cvs, tq, rfl, c1, c2, c3⟩ (hbind _ _ _ _ ?_)
      refine wpAny_newFunctionEnv S.nocell (fun ⟨y, _⟩ hy => S.par y (List.of_mem_zip hy).1) (fun h₁ hns hsb => ⟨lim.fresh _ hsb, ?_⟩) S.kind
      show codeAny _ _ (.expr L.body (NdefX.envF NF0 f s.heap.objs.size)) _ _
      have kp : ∀ b o, s.heap.get? b = some o → h₁.get? b = some o := fun b o q => hsb.extBut b o (Nat.ne_of_lt (Heap.lt_size q)) (Heap.get?_push_of_some _ q)
      have CA0 : NdefX.CellsAt NF0.cl [] [] s.heap H := ⟨rfl, fun y c z => (nomatch z), fun x y c z => (nomatch z), fun i y z => (nomatch z)⟩
      have I : L2.Inv X [] (NdefX.startF N vs []) H { s with heap := h₁, toks := s.toks + (ps.zip us).length } := NdefX.inv_startN S hr.hd e0 h1 r CA0 hns kp
      have hpl : ps.length ≤ N.length := by
        have z := congrArg List.length S.pre
        rw [List.length_take, List.length_append] at z
        have : ([] : List Str).length = 0 := rfl
        omega
      have rd : tE K FA FA.ca W ⟨H, topA vs os, F0, []⟩ ⟨G T Wf n, sigT T⟩ e (NdefX.startF N vs []) H Q := by
        refine ⟨F0, [], os.map some ++ List.replicate (N.length - os.length) none, ?_, ?_, ?_⟩
        · unfold NdefX.startF
          simp only [List.length_append, List.length_map, List.length_replicate, List.length_nil]
          omega
        · rw [List.append_nil]
          unfold NdefX.startF
          rw [lv_start (N := N) (by rw [h1, hos])]
          exact h3
        · revert h4
          show (match finish (List.replicate ps.length false) (evalSs ⟨G T Wf n, sigT T⟩ Wf (.cons (.ret e) .nil) (os.map some ++ List.replicate (N.length - os.length) none)) with
            | .rt o outs => ∀ v H' F', Sub F0 F' → Hs K FA ⟨H, topA vs os, F0, []⟩ F' H' ((some v, o) :: outsOf (List.replicate ps.length false) vs outs) → Q v H'
            | .ex c ds => ∀ H' F' od a, FA.ca c = some a → Sub F0 F' → HR ⟨H, topA vs os, F0, []⟩ F' H' → ExcAt K FA F' H' ds od → E (.ref a) od H'
            | .no => False) → _
          unfold evalSs
          rw [evalS_ret hv]
          have no : ∀ (m : Nat) (env : Env) (i : Nat), outs? env (List.replicate m false) i = some [] := fun m => by
            induction m with
            | zero => intro env i; rfl
            | succ m ih => intro env i; rw [List.replicate_succ]; exact ih env (i + 1)
          have no2 : ∀ (m : Nat) (vs : List V) (us : List O), outsOf (List.replicate m false) vs us = [] := fun m => by
            induction m with
            | zero => intro vs us; cases vs <;> rfl
            | succ m ih => intro vs us; cases vs with
              | nil => rfl
              | cons v vs => rw [List.replicate_succ]; exact ih vs us
          cases evalE ⟨G T Wf n, sigT T⟩ e (os.map some ++ List.replicate (N.length - os.length) none) with
          | no => intro h4; exact h4
          | ex c ds => intro h4; exact h4
          | ok o env1 =>
            intro h4
            have h4 : (match (match outs? env1 (List.replicate ps.length false) 0 with | some outs => CR.rt o outs | none => .no) with
              | .rt o outs => ∀ v H' F', Sub F0 F' → Hs K FA ⟨H, topA vs os, F0, []⟩ F' H' ((some v, o) :: outsOf (List.replicate ps.length false) vs outs) → Q v H'
              | .ex c ds => ∀ H' F' od a, FA.ca c = some a → Sub F0 F' → HR ⟨H, topA vs os, F0, []⟩ F' H' → ExcAt K FA F' H' ds od → E (.ref a) od H'
              | .no => False) := h4
            rw [no] at h4
            intro v H' F' hl s1 sF _
            refine h4 v H' F' sF ?_
            rw [no2]
            exact s1.toTemp.dropL
      refine PySem.W.kla_codeExpr (wpAny_mono (((sE (X := X) (W := W) (w := ⟨H, topA vs os, F0, []⟩) e c q hi).1).run [] _ _ H Q I rd) (fun v s' hq => ?_) fun e s' hq => hq)
      obtain ⟨w', H', J', rv, q⟩ := hq
      exact ⟨w', H', J'.os, J'.bare, J'.base, J'.hok, rv, q⟩
end
end RF
/-! RFv: the end of a law whose defs ask that no repr runs around; what lies beside the module. -/
namespace RF
open L2 PySem PySem.Spec PyProof.Rows LamX
/-- nothing opaque is loaded -/
def StatAt (h : Heap) : Prop := ∃ K1 : PySem.W.Frag, K1.In h ∧ PySem.W.nsIn K1 cStatics "thirdparty.any" = some none ∧ ∀ b o, K1.lookup b = some o → b = cStatics ∧ ∃ es ep, o.data = .dict es ep
def statB (g : Addr → Option Obj) : Bool := match g cStatics with
  | some ⟨c, d, .dict es ep, sl⟩ => decide (PySem.W.nsIn [(cStatics, ⟨c, d, .dict es ep, sl⟩)] cStatics "thirdparty.any" = some none)
  | _ => false
theorem stat_of {h : Heap} (e : statB h.get? = true) : StatAt h := by
  unfold statB at e
  split at e
  · rename_i c d es ep sl hg
    have one : ∀ b o, ([(cStatics, (⟨c, d, .dict es ep, sl⟩ : Obj))] : PySem.W.Frag).lookup b = some o → b = cStatics ∧ o = ⟨c, d, .dict es ep, sl⟩ := fun b o q => by
      unfold List.lookup at q
      split at q
      · rename_i hb
        cases q
        exact ⟨by simpa using hb, rfl⟩
      · cases q
    exact ⟨_, fun b o q => by obtain ⟨rfl, rfl⟩ := one b o q; exact hg, of_decide_eq_true e, fun b o q => by obtain ⟨rfl, rfl⟩ := one b o q; exact ⟨rfl, es, ep, rfl⟩⟩
  · cases e
def obY (n : Nat) (fa : List He.Fa) (fn : List He.DefD) (ts : List He.Tab) (tf : List He.Defn) (ex : PySem.W.Frag → Bool) (g : Addr → Option Obj) : He.AlX × Bool := (He.obsX n fa fn ts tf ex g, statB g)
def hookY (n : Nat) (fa : List He.Fa) (fn : List He.DefD) (ts : List He.Tab) (tf : List He.Defn) (ex : PySem.W.Frag → Bool) : PySem.W.Hook where
  α := He.AlX × Bool
  obs := fun s => obY n fa fn ts tf ex s.heap.get?
  val := fun w => (He.valX fn ts w, true)
  says := fun w h => (∃ K : PySem.W.Frag, K.In h ∧ He.SaysX fa fn ts tf ex w h K) ∧ StatAt h
  of := fun w s e => ⟨(He.hookX n fa fn ts tf ex).of w s (congrArg Prod.fst e), stat_of (congrArg Prod.snd e)⟩
  keeps := fun w h h' ⟨x, K1, i, q⟩ k => ⟨(He.hookX n fa fn ts tf ex).keeps w h h' x k, K1, i.keeps k, q⟩
theorem obY_eq {n : Nat} {fa : List He.Fa} {fn : List He.DefD} {ts : List He.Tab} {tf : List He.Defn} {ex : PySem.W.Frag → Bool} {g : Addr → Option Obj} {s : Shared} (h : ∀ a, g a = s.heap.get? a) : obY n fa fn ts tf ex g = (hookY n fa fn ts tf ex).obs s := by
  obtain rfl : g = s.heap.get? := funext h
  rfl
section
variable {P : Program} {w : World} {K : PySem.W.Frag} {mg mb : Str → Option Value} {k : Nat} {fa a c T : Addr} {fd : FuncData} {x : Str} {sp : Sp} {s₁ : Shared} {vs : List Value} {ns : List Int}
/-- the law called, from an abstract heap that tracks the script (or not) and the table -/
theorem callG (H : Hp) (hH : H T = some (.tbl #[])) (hA : ∀ b, H b ≠ none → (b = a ∧ K.lookup a = none) ∨ b = T) (hO : ∀ b u, H b = some u → b = T ∨ ∃ o xs, u = .frz o (.lst xs)) (hS : SqL K H a (ns.map V.int)) (hok : HOk P w H s₁.heap)
    (KX : K.In s₁.heap) (hns : s₁.heap.Ns mainGlobals mg) (hb : s₁.heap.Ns builtinsNs mb) (hbb : ∀ x : Str, x ≠ "__name__" → mb x = bootBuiltins x) (hlim : s₁.heap.NoLimit) (hg : s₁.gens = #[])
    (hT : s₁.heap.get? T = some { cls := .none, data := .fields #[] }) (nT : K.lookup T = none) (C : PySem.W.CodeHd s₁.heap c T)
    (hbm : ∃ (bm : Addr) (ob : Obj), mg "__builtins__" = some (.ref bm) ∧ bm ≠ builtinsNs ∧ s₁.heap.get? bm = some ob ∧ ob.cls = .type "module" ∧ ob.dict = some builtinsNs ∧ ob.data = .plain)
    (ha : s₁.heap.get? a = some { cls := .type "list", data := .seq vs.toArray }) (hr : Room k callerA) (hst : StatAt s₁.heap)
    (F : ∀ base : Heap, K.In base → base.Ns mainGlobals mg → TabB base mg c T → (∃ K1 : PySem.W.Frag, K1.In base ∧ PySem.W.nsIn K1 cStatics "thirdparty.any" = some none) → FnG P w K mg base (L2.CX P w) k fa fd [x] sp)
    (hbind : ∀ (s : Shared) (u : Value), BindsTo s fd ⟨[u], []⟩ [(x, u)]) (hsp : sp [.ref a] H (fun v _ => v = .bl true) fun _ _ _ => False)
    (hCX : ∀ e s', L2.CX P w [] H s₁ (fun _ _ _ => False) e s' → False) :
    codeAny (model P w) callerA (.call (.ref fa) ⟨[.ref a], []⟩) (fun r s' => r = .ok (.ret (.bool true)) ∧ OldK s₁.heap s'.heap ∧ s'.os = s₁.os ∧ AllBare s'.gens) s₁ := by
  have inB : ∀ {b : Addr} {o : Obj}, s₁.heap.get? b = some o → (∀ xs n, o.data ≠ .seq xs n) → (∀ xs, o.data = .fields xs → 18 < xs.size) → (hidT s₁.heap H).get? b = some o := fun {b o} e n1 n2 => by
    refine hidT_get e ?_
    cases q : H b with
    | none => rfl
    | some u =>
      exfalso
      rcases hA b (by rw [q]; exact fun z => nomatch z) with ⟨rfl, _⟩ | rfl
      · rw [ha] at e; cases e; exact n1 _ _ rfl
      · rw [hT] at e; cases e; exact absurd (n2 _ rfl) (by simp)
  have dictB : ∀ {b : Addr} {o : Obj} {es : Array DictEntry} {ep : Nat}, s₁.heap.get? b = some o → o.data = .dict es ep → (hidT s₁.heap H).get? b = some o := fun e d => inB e (fun _ _ z => by rw [d] at z; cases z) (fun _ z => by rw [d] at z; cases z)
  have nsB : ∀ {b : Addr} {m : Str → Option Value}, s₁.heap.Ns b m → (hidT s₁.heap H).Ns b m := fun ⟨o, es, ep, e, d, r⟩ => ⟨o, es, ep, dictB e d, d, r⟩
  have KB : K.In (hidT s₁.heap H) := fun b o e => hidT_get (KX b o e) (by
    cases q : H b with
    | none => rfl
    | some u =>
      exfalso
      rcases hA b (by rw [q]; exact fun z => nomatch z) with ⟨rfl, z⟩ | rfl
      · rw [z] at e; cases e
      · rw [nT] at e; cases e)
  obtain ⟨mc, l1, l2⟩ := hlim
  have md : L2.Mod K mg (hidT s₁.heap H) := ⟨KB, nsB hns, ⟨mb, nsB hb, hbb⟩, mc, nsB l1, l2⟩
  have tb : TabB (hidT s₁.heap H) mg c T := by
    refine ⟨?_, ?_, fun z => ?_⟩
    · obtain ⟨o, us, file, tf, flags, tg, inF, text, tt, q1, q2, q3, q4, q5, q6, rest⟩ := C
      have big : 18 < us.size := by
        by_cases z : 18 < us.size
        · exact z
        · exfalso
          rw [Array.getD_eq_getD_getElem?, Array.getElem?_eq_none (by omega)] at q6
          cases q6
      exact ⟨o, us, file, tf, flags, tg, inF, text, tt, inB q1 (fun _ _ z => by rw [q3] at z; cases z) (fun xs z => by rw [q3] at z; cases z; exact big), q2, q3, q4, q5, q6, rest⟩
    · obtain ⟨bm, ob, b1, b2, b3, b4, b5, b6⟩ := hbm
      refine ⟨bm, ob, b1, b2, fun z => ?_, fun z => ?_, inB b3 (fun _ _ z => by rw [b6] at z; cases z) (fun _ z => by rw [b6] at z; cases z), b4, b5, b6⟩
      · obtain ⟨o, es, ep, e, d, _⟩ := hns
        rw [z, e] at b3
        cases b3
        rw [d] at b6; cases b6
      · rw [z, hT] at b3
        cases b3; cases b6
    · obtain ⟨o, es, ep, e, d, _⟩ := hns
      rw [z, hT] at e
      cases e; cases d
  obtain ⟨K1, k1, k2, k3⟩ := hst
  have st : ∃ K1 : PySem.W.Frag, K1.In (hidT s₁.heap H) ∧ PySem.W.nsIn K1 cStatics "thirdparty.any" = some none := ⟨K1, fun b o q => by
    obtain ⟨_, es, ep, d⟩ := k3 b o q
    exact dictB (k1 b o q) d, k2⟩
  have e0 : Env0 P w K mg (hidT s₁.heap H) callerA [] s₁ H := ⟨rfl, md, fun b o e => of_hidT e, Nat.le_of_eq (hidT_size _ _), trivial, fun b m => (nomatch m), hok, .of_eq hg⟩
  refine codeAny_mono ((F _ KB (nsB hns) tb st).run callerA [] s₁ H ⟨[.ref a], []⟩ [.ref a] [.ref a] _ _ hr rfl e0 (hbind s₁ (.ref a)) (.cons rfl .nil) hsp) fun r s' h => ?_
  match r, h with
  | .error e, h => exact (hCX e s' h).elim
  | .ok .next, h => exact False.elim h
  | .ok .brk, h => exact False.elim h
  | .ok .cont, h => exact False.elim h
  | .ok (.ret u), ⟨v, H', os, bare, un, hok', rv, q⟩ =>
    obtain rfl : v = .bl true := q
    obtain rfl : u = Value.bool true := rv
    have kp : ∀ b o, b ≠ T → s₁.heap.get? b = some o → s'.heap.get? b = some o := fun b o nb e => by
      cases z : H b with
      | none => exact un.keep b o e z (fun m => nomatch m) (fun m => nomatch m)
      | some u =>
        rcases hO b u z with z2 | ⟨ob, xs, rfl⟩
        · exact absurd z2 nb
        · have y1 := (hok b _ z).1
          have y2 := (hok' b _ (un.frzs b ob _ z)).1
          rw [e] at y1; cases y1
          exact y2
    obtain ⟨more, hm⟩ := un.tbls T #[] hH
    have gr : s'.heap.get? T = some { cls := .none, data := .fields (#[] ++ more) } := hok' T _ hm
    refine ⟨rfl, ⟨fun b o e => ?_, fun b o e => ?_⟩, os, bare⟩
    · by_cases z : b = T
      · subst z
        rw [hT] at e
        cases e
        exact .inr (.inl ⟨(C.tab hT).isCodeTable, rfl, #[], more, rfl, gr⟩)
      · exact .inl (kp b o z e)
    · by_cases z : b = T
      · rw [z]; exact ⟨_, gr⟩
      · exact ⟨o, kp b o z e⟩
/-- what is known of the law's promise -/
def LawG (P : Program) (w : World) (K : PySem.W.Frag) (k n : Nat) (x : Str) (mg : Str → Option Value) (fa c T : Addr) : Prop :=
  ∃ (fd : FuncData) (sp : Sp), (∀ (s : Shared) (u : Value), BindsTo s fd ⟨[u], []⟩ [(x, u)]) ∧
    (∀ (H : Hp) (a : Addr) (ns : List Int), ns.length ≤ n → (∀ z ∈ ns, Builtin.Int.intBits z ≤ 1048576) → H T = some (.tbl #[]) → SqL K H a (ns.map V.int) → sp [.ref a] H (fun v _ => v = .bl true) fun _ _ _ => False) ∧
    ∀ base : Heap, K.In base → base.Ns mainGlobals mg → TabB base mg c T → (∃ K1 : PySem.W.Frag, K1.In base ∧ PySem.W.nsIn K1 cStatics "thirdparty.any" = some none) → FnG P w K mg base (L2.CX P w) k fa fd [x] sp
theorem noCX0 {H : Hp} {s : Shared} {e : Value} {s' : Shared} (h : L2.CX P w [] H s (fun _ _ _ => False) e s') : False := by
  obtain ⟨_, _, _, _, _, _, _, _, _, _, _, _, z⟩ := h
  exact z
theorem walkG {l : PySem.W.OpenLaw} {n k : Nat} {q : Program} {loose : List Str} {XP : (Str → Option Value) → Heap → Prop} {YP : World → Heap → Prop} {d : DefRec} {x : Str} (hn : l.most = some n) (hn2 : n ≤ sizeLine) (hdf : d.params.defaults = []) (hr : Room k callerA)
    (F : ∀ (w : World) (mg : Str → Option Value) (fa : Addr) (h : Heap), YP w h → h.Ns mainGlobals mg → mg d.name = some (.ref fa) → ∃ (K : PySem.W.Frag) (c T : Addr), K.In h ∧ StatAt h ∧ h.get? T = some { cls := .none, data := .fields #[] } ∧ K.lookup T = none ∧ PySem.W.CodeHd h c T ∧ LawG l.prog w K k n x mg fa c T) :
    PySem.W.WalkO q loose XP YP l.row.toRowW d [] (fun f vs => PySem.call f vs) := by
  refine Att.attach_callB hn hdf fun w s₀ s₁ mg mb fa o pm cd doc a vs ns G Y ho hd hcd hmg hobj hints hlen hbits hg => ?_
  obtain ⟨K, c, T, KX, hst, hT, nT, C, fd, sp, hb, hsp, hF⟩ := F w mg fa _ Y G.T.g hmg
  have nTa : T ≠ a := fun z => by
    rw [z, hobj] at hT
    cases hT
  cases hk : K.lookup a with
  | some o2 =>
    have e := KX a o2 hk
    rw [hobj] at e
    cases e
    have hS : SqL K (fun b => if b = T then some (HO.tbl #[]) else none) a (ns.map V.int) := .inr ⟨_, vs.toArray, _, hk, rfl, rfl, rfl, by rw [List.size_toArray, hints.length]; exact Nat.le_trans hlen hn2, by simpa using vals_ints hints⟩
    refine callG (fun b => if b = T then some (.tbl #[]) else none) (if_pos rfl) (fun b z => ?_) (fun b u z => ?_) hS (fun b u z => ?_) KX G.T.g G.T.b G.T.builtins G.T.nolimit hg hT nT C G.T.bmain hobj hr hst hF hb (hsp _ a ns hlen hbits (if_pos rfl) hS) fun e s' z => noCX0 z
    · by_cases y : b = T
      · exact .inr y
      · exact absurd (if_neg y) z
    · by_cases y : b = T
      · exact .inl y
      · have z' := (if_neg y).symm.trans z
        cases z'
    · by_cases y : b = T
      · have z' := (if_pos y).symm.trans z
        cases z'
        rw [y]; exact hT
      · have z' := (if_neg y).symm.trans z
        cases z'
  | none =>
    have hS : SqL K (fun b => if b = a then some (.frz { cls := .type "list", data := .seq vs.toArray } (.lst (ns.map V.int))) else if b = T then some (HO.tbl #[]) else none) a (ns.map V.int) := .inl (.inr ⟨{ cls := .type "list", data := .seq vs.toArray }, if_pos rfl⟩)
    have hT2 : (fun b => if b = a then some (HO.frz { cls := .type "list", data := .seq vs.toArray } (.lst (ns.map V.int))) else if b = T then some (HO.tbl #[]) else none) T = some (.tbl #[]) := (if_neg nTa).trans (if_pos rfl)
    refine callG (fun b => if b = a then some (.frz { cls := .type "list", data := .seq vs.toArray } (.lst (ns.map V.int))) else if b = T then some (.tbl #[]) else none) hT2 (fun b z => ?_) (fun b u z => ?_) hS (fun b u z => ?_) KX G.T.g G.T.b G.T.builtins G.T.nolimit hg hT nT C G.T.bmain hobj hr hst hF hb (hsp _ a ns hlen hbits hT2 hS) fun e s' z => noCX0 z
    · by_cases y1 : b = a
      · exact .inl ⟨y1, hk⟩
      · by_cases y : b = T
        · exact .inr y
        · exact absurd ((if_neg y1).trans (if_neg y)) z
    · by_cases y1 : b = a
      · have z' := (if_pos y1).symm.trans z
        cases z'
        exact .inr ⟨_, _, rfl⟩
      · by_cases y : b = T
        · exact .inl y
        · have z' := (if_neg y1).symm.trans z
          rw [if_neg y] at z'; cases z'
    · by_cases y1 : b = a
      · have z' := (if_pos y1).symm.trans z
        cases z'
        rw [y1]
        exact ⟨hobj, by rw [List.length_map]; exact Nat.le_trans hlen hn2, vs, _, vals_ints hints, hobj⟩
      · by_cases y : b = T
        · have z' := (if_neg y1).symm.trans z
          rw [if_pos y] at z'
          cases z'
          rw [y]; exact hT
        · have z' := (if_neg y1).symm.trans z
          rw [if_neg y] at z'; cases z'
end
end RF
/-! RFt: the law as a def; the facts of a top; the end. -/
namespace RF
open L2 PySem PySem.Spec PyProof.Rows
/-! ### the law -/
def spLaw (K : PySem.W.Frag) (P : Addr) (r : List O → CR) : Sp := fun vs H Q E =>
  ∃ (a : Addr) (ns : List Int), vs = [.ref a] ∧ SqL K H a (ns.map V.int) ∧ H P = some (.tbl #[]) ∧ r [.z (.scr ns)] = .rt (.z (.bl true)) [] ∧ ∀ H', Q (.bl true) H'
/-- all but the tables -/
def offT (H : Hp) : Hp := fun b => match H b with
  | some (.tbl _) => none
  | x => x
theorem offT_some {H : Hp} {b : Addr} {o : HO} (h : offT H b = some o) : H b = some o ∧ ∀ ps, o ≠ .tbl ps := by
  unfold offT at h
  cases e : H b with
  | none => rw [e] at h; cases h
  | some x =>
    rw [e] at h
    cases x <;> first | (cases h; exact ⟨rfl, fun ps z => by cases z⟩) | cases h
theorem offT_of {H : Hp} {b : Addr} {o : HO} (h : H b = some o) (n : ∀ ps, o ≠ .tbl ps) : offT H b = some o := by
  unfold offT
  rw [h]
  cases o <;> first | rfl | exact absurd rfl (n _)
def qualL (qual : Str) (scope : Scope) (a c : Addr) : Str := (envOfC qual scope 0 a (.ref c)).qual ++ "<lambda>"
section
variable {Pr : Program} {wd : World} {K : PySem.W.Frag} {mg : Str → Option Value} {base : Heap} {Nm : Names} {FA : Fns} {CA : Nat → Option Addr} {FD : Nat → FuncData} {T : Nat → Option Fd} {Wf : Nat}
theorem TopOk.law (t : TopOk Pr K mg base Nm FA FD T) {a c P : Addr} {fd : FuncData} {nm qual : Str} {params : Arguments} {body : List Stmt} {scope : Scope} {dvs : List V} {kws : List (Str × V)} {F : Fd} {N : List Str} {n : Nat}
    (hF : FunD K nm qual params body scope dvs kws a fd) (S : FnScope N ["script"] scope) (hs : isTop { Nm with mks := true } N [] scope F.body body = true) (hm : F.modes = [false]) (hsl : F.slots = N.length)
    (hcode : ∀ o fd', K.lookup a = some o → o.data = .func fd' → fd'.code = .ref c) (tb : LamX.TabB base mg c P)
    (hml : ∀ k params scope' body, Nm.lamB k params scope' body = true → FA.ml k ⟨qualL qual scope a c, params, body, scope'⟩ ∧ (∀ y ∈ scope'.names, y.2 ≠ .free) ∧ ∀ env, defaultsOf params env = ([], [])) :
    FnG Pr wd K mg base (L2.CX Pr wd) (n + 3) a fd ["script"] (spLaw K P (runF ⟨G T Wf n, sigT T⟩ Wf F)) := by
  obtain ⟨ihF, ihL⟩ := TopOk.all (P := Pr) (wd := wd) (base := base) (Wf := Wf) t n
  obtain ⟨oc, od, dV, kV, doc, pm, an, cdv, ct, osl, rfl, lk, hcd, _, _⟩ := hF.ex
  have ec : cdv = .ref c := hcode _ _ lk rfl
  subst ec
  have hle : 1 ≤ N.length := by
    have := congrArg List.length S.pre
    rw [List.length_take] at this
    simp at this
    omega
  refine fnG_of lk hcd S (fun vs H Q E ⟨_, _, h, _⟩ => by rw [h]; rfl) fun A outer s H vs Q E hr hg ⟨a', ns, h0, hS, hP, hres, hq⟩ => ?_
  subst h0
  let X := cxOf (L2.CX Pr wd) Pr wd K mg base N qual scope a (.ref c) A outer s H E
  let W : WX := fun cls d _ H => E cls d H
  let w0 : W0 := ⟨H, [P], offT H, [(P, qualL qual scope a c)]⟩
  have tk : Takes X W := takes_of (X := X) rfl rfl rfl rfl
  have ck : Cok { Nm with mks := true } FA FA.ca ⟨G T Wf n, sigT T⟩ X W := Cok.mk' (X := X) t true Nm.lamB rfl S.nd (by have := hr.un; show (A.deeper _).units + 65 < cLine; omega) tk hr hg ihF ihL
  have mk : MkOk { Nm with mks := true } FA X w0 := ⟨⟨c, P, rfl, tb, List.mem_singleton.mpr rfl, fun p hp _ => by rw [List.mem_singleton.mp hp]; rfl, List.mem_singleton.mpr rfl⟩, fun k ps sc' b h => hml k ps sc' b h⟩
  have St : Stm { Nm with mks := true } FA FA.ca ⟨G T Wf n, sigT T⟩ X W w0 scope := ⟨ck, ⟨⟨fun x h => h, fun x h => ⟨h, rfl⟩, fun x h => .inr h, fun x h => h⟩, fun _ => mk⟩, S.kind, passes_of (X := X) rfl⟩
  have hpr : prOf F.modes = [] := by rw [hm]; rfl
  have hw : HR w0 (offT H) H := by
    refine ⟨fun b o e => (offT_some e).1, Sub.refl _, fun b o e => .inl e, fun b o e _ => e, fun b e => e, fun b xs e => offT_of e (fun ps z => by cases z), fun p hp => ?_, fun b ps e => (offT_some e).2 ps rfl⟩
    rw [List.mem_singleton.mp hp]
    exact LamX.TabS.nil hP
  have hrep : Rep K FA (offT H) (.ref a') (.scr ns) := by
    refine .scr ?_
    rcases hS with (h | ⟨o, h⟩) | h
    · exact .inl (.inl (offT_of h fun ps z => by cases z))
    · exact .inl (.inr ⟨o, offT_of h fun ps z => by cases z⟩)
    · exact .inr h
  have hstart : Hs K FA w0 (offT H) H (([V.ref a'].map some).zip [O.z (.scr ns)]) := ⟨hw, [], RepL.cons (A := []) (.z hrep) .nil, List.nodup_nil, fun b m => (nomatch m)⟩
  obtain ⟨tt, pt, it⟩ := sTop (X := X) (Wf := Wf) (pr := prOf F.modes) (σ0 := L2.start N [.ref a']) St ⟨rfl, rfl, rfl⟩ F.body (by rw [hpr]; exact hs)
  refine ⟨tt, pt, it _ _ _ ?_ (body_start (CA := FA.ca) (os := [.z (.scr ns)]) (by rw [hm]; rfl) (by rw [hm]; rfl) (by rw [hm]; exact hle) hsl hstart (fun a od σ H' z => z) ?_)⟩
  · show (L2.start N [V.ref a']).length = N.length
    unfold L2.start
    simp only [List.length_append, List.length_map, List.length_replicate, List.length_cons, List.length_nil]
    omega
  rw [hres]
  intro v H' F' sF s1
  have ev := RepV.bl (X := X) (.rep s1.rep : RepV X.K FA F' H' v _)
  subst ev
  exact hq H'
end
/-! ### the facts of a top -/
structure DD where
  x : Str
  i : Nat
  ps : List Str
  N : List Str
  F : Fd
def DD.st (body : List Stmt) (e : DD) : Stmt := body.getD e.i (.Pass ⟨0, 0, 0, 0⟩)
def DD.d (body : List Stmt) (e : DD) : He.DefD := ⟨(e.x, none), e.x, e.x, defArgs (e.st body), defBody (e.st body), defScope (e.st body), [], []⟩
def scB (N ps : List Str) (sc : Scope) : Bool :=
  decide (sc.kind = .function) && !sc.isCoroutine && !sc.isGenerator && decide N.Nodup && decide (N.take ps.length = ps) && ps.all (fun x => decide (sc.names.lookup x = some .local) || decide (sc.names.lookup x = some .cell)) && sc.names.all (fun y => !decide (y.2 = .free))
theorem scB_ok {N ps : List Str} {sc : Scope} (h : scB N ps sc = true) : FnScope N ps sc := by
  unfold scB at h
  simp only [Bool.and_eq_true, Bool.not_eq_true', decide_eq_true_eq, List.all_eq_true, Bool.or_eq_true, decide_eq_false_iff_not] at h
  obtain ⟨⟨⟨⟨⟨⟨h1, h2⟩, h3⟩, h4⟩, h5⟩, h6⟩, h7⟩ := h
  exact ⟨h1, h2, h3, h4, h5, h6, h7⟩
def DD.okB (Nm : Names) (body : List Stmt) (e : DD) : Bool :=
  scB e.N e.ps (defScope (e.st body)) && isTop Nm e.N (prOf e.F.modes) (defScope (e.st body)) e.F.body (defBody (e.st body)) && decide (e.F.modes.length = e.ps.length) && decide (e.F.slots = e.N.length)
/-- the names by a list of defs -/
def namesOf (ds : List DD) (kw : List (Nat × Nat × List Str × List Nat)) (ks : List (Str × Int)) (cls : List Str) (fit : Option Str) (lamB : Nat → Arguments → Scope → Expr → Bool) : Names :=
  ⟨kw, fun f => (ds[f]?).map (·.x), fun j => ks[j]?, fun f => ((ds[f]?).map (·.ps)).getD [], false, lamB, fun c => cls[c]?, fit⟩
def fnsOf (K : PySem.W.Frag) (ds : List DD) (cls : List Str) (lamB : Nat → Arguments → Scope → Expr → Bool) : Fns := ⟨fun f => (ds[f]?).map fun e => He.ga K e.x, fun k L => lamB k L.params L.scope L.body = true, fun c => (cls[c]?).map (He.ga K)⟩
/-- the error classes -/
def excB (K : PySem.W.Frag) (D : Addr) : Bool :=
  decide (PySem.W.findIn K (.ref D) "__getattribute__" = some (some (.builtin "BaseException.__getattribute__"))) && decide (PySem.W.findIn K (.ref D) "__getattr__" = some none) && decide (PySem.W.subIn K (.ref D) (.type "BaseException") = some true) && PySem.W.hasDictIn K D &&
  decide (PySem.W.findIn K (.ref D) "__class__" = some (some (.builtin "object.__class__"))) && decide (PySem.W.specialIn K (.builtin "object.__class__") "__get__" = some (some (.builtin "getset_descriptor.__get__"))) && decide (PySem.W.takesIn K (.builtin "object.__class__") = some true) && decide (PySem.W.mroIn K D (.type "object") = some true)
theorem excB_ok {K : PySem.W.Frag} {D : Addr} (h : excB K D = true) : ExcC K D := by
  unfold excB at h
  simp only [Bool.and_eq_true, decide_eq_true_eq] at h
  obtain ⟨⟨⟨⟨⟨⟨⟨h1, h2⟩, h3⟩, h4⟩, h5⟩, h6⟩, h7⟩, h8⟩ := h
  exact ⟨h1, h2, h3, h4, h5, h6, h7, h8⟩
def clsOkB (prog : Program) (cls : List Str) (fit : Option Str) (K : PySem.W.Frag) : Bool :=
  cls.all (fun x => RX.iniB prog K (He.ga K x) && xfB K (He.ga K x) && excB K (He.ga K x)) &&
  ((List.range cls.length).all fun i => (List.range cls.length).all fun j => decide (PySem.W.kitOne K (.ref (He.ga K (cls.getD i ""))) (.ref (He.ga K (cls.getD j ""))) = some (i == j))) &&
  (match fit with
  | none => true
  | some y => cls.all fun x => decide (PySem.W.exmOne K (.ref (He.ga K x)) (.ref (He.ga K y)) = some true))
/-- how a def binds -/
def BindOk (K : PySem.W.Frag) (kw : List (Nat × Nat × List Str × List Nat)) (f : Nat) (e : DD) (fd : FuncData) : Prop :=
  Binds K fd e.ps [] ∧ ∀ n ks perm, (f, n, ks, perm) ∈ kw → ∀ (s : Shared) (us ws : List Value), K.In s.heap → us.length = n → ws.length = ks.length → BindsTo s fd ⟨us, ks.zip ws⟩ (e.ps.zip (permL .none us ws perm))
def LamOk (Nm : Names) (T : Nat → Option Fd) (lamB : Nat → Arguments → Scope → Expr → Bool) : Prop := ∀ (k : Nat) (L : LamD), lamB k L.params L.scope L.body = true → ∃ (ps N : List Str) (e : X), (∀ (c : Addr) (pm ctv : Value) (us : List Value), us.length = ps.length → bindArgs (L.fd c pm ctv) ⟨us, []⟩ = pure (ps.zip us)) ∧
    T k = some ⟨List.replicate ps.length false, N.length, .cons (.ret e) .nil⟩ ∧ (∀ i, e ≠ .v i) ∧ NdefX.nscB N ps [] L.scope = true ∧ isE { Nm with lamB := fun _ _ _ _ => false } N e L.scope L.body = true
section
variable {P : Program} {base : Heap} {K : PySem.W.Frag} {h : Heap} {mg : Str → Option Value} {body : List Stmt} {ds : List DD} {kw : List (Nat × Nat × List Str × List Nat)} {ks : List (Str × Int)} {cls : List Str} {fit : Option Str} {lamB : Nat → Arguments → Scope → Expr → Bool} {T : Nat → Option Fd} {fa : List He.Fa} {fn : List He.DefD}
theorem getD_of {cls : List Str} {i : Nat} {x : Str} (h : cls[i]? = some x) : cls.getD i "" = x ∧ i < cls.length := ⟨by simp [List.getD, h], (List.getElem?_eq_some_iff.mp h).1⟩
theorem top_of (KX : K.In h) (G : h.Ns mainGlobals mg) (c : He.SaysD fa fn K) (hfn : ∀ e ∈ ds, e.d body ∈ fn) (hfa : ∀ e ∈ ds, He.Fa.glo e.x ∈ fa) (hblt : ∀ x ∈ bltNames, He.Fa.free x ∈ fa) (hks : ∀ q ∈ ks, He.Fa.int q.1 q.2 ∈ fa)
    (hcl : ∀ x ∈ cls, He.Fa.glo x ∈ fa) (hfit : ∀ x, fit = some x → He.Fa.glo x ∈ fa) (hcB : clsOkB P cls fit K = true) (hsup : (P.main.scope.names.lookup ("super" : Str)).isSome = false) (hst : ∃ K1 : PySem.W.Frag, K1.In base ∧ PySem.W.nsIn K1 cStatics "thirdparty.any" = some none)
    (hok : ds.all (DD.okB (namesOf ds kw ks cls fit lamB) body) = true) (hT : ∀ (f : Nat) (e : DD), ds[f]? = some e → T f = some e.F) (hb : ∀ (f : Nat) (e : DD) (fd : FuncData), ds[f]? = some e → FunD K e.x e.x (defArgs (e.st body)) (defBody (e.st body)) (defScope (e.st body)) [] [] (He.ga K e.x) fd → BindOk K kw f e fd)
    (hl : LamOk (namesOf ds kw ks cls fit lamB) T lamB) (d0 : FuncData) : ∃ FD, TopOk P K mg base (namesOf ds kw ks cls fit lamB) (fnsOf K ds cls lamB) FD T := by
  have step : ∀ f : Nat, ∃ fd : FuncData, ∀ e : DD, ds[f]? = some e → FunD K e.x e.x (defArgs (e.st body)) (defBody (e.st body)) (defScope (e.st body)) [] [] (He.ga K e.x) fd := fun f => by
    cases q : ds[f]? with
    | none => exact ⟨d0, fun e z => by cases z⟩
    | some e =>
      obtain ⟨fd, hF⟩ := c.defs (hfn e (List.mem_of_getElem? q))
      exact ⟨fd, fun e' z => by cases z; exact hF⟩
  obtain ⟨FD, hFD⟩ := Classical.skolem.mp step
  unfold clsOkB at hcB
  obtain ⟨hcB, hcF⟩ := ands hcB
  obtain ⟨hc1, hc2⟩ := ands hcB
  have free : ∀ x ∈ bltNames, mg x = none := fun x hx => He.free_ok KX G (c.facts (hblt x hx))
  have caI : ∀ {k : Nat} {a : Addr}, (fnsOf K ds cls lamB).ca k = some a → ∃ x, cls[k]? = some x ∧ a = He.ga K x := fun {k a} e => by
    have e : (cls[k]?).map (He.ga K) = some a := e
    cases q : cls[k]? with
    | none => rw [q] at e; cases e
    | some x => rw [q] at e; exact ⟨x, rfl, (Option.some.inj e).symm⟩
  refine ⟨FD, rfl, fun f a ea => ?_, hl, fun f x ex => ?_, fun j x i ej => ?_, free, fun k x ex => ?_, fun k a ea => ?_, fun k a j b ea eb => ?_, fun x ex => ?_⟩
  · have ea : (ds[f]?).map (fun e => He.ga K e.x) = some a := ea
    cases q : ds[f]? with
    | none => rw [q] at ea; cases ea
    | some e =>
      rw [q] at ea
      obtain rfl : He.ga K e.x = a := Option.some.inj ea
      have hF := hFD f e q
      have b := hb f e _ q hF
      have hm := List.all_eq_true.mp hok e (List.mem_of_getElem? q)
      unfold DD.okB at hm
      simp only [Bool.and_eq_true, decide_eq_true_eq] at hm
      obtain ⟨⟨⟨m1, m2⟩, m3⟩, m4⟩ := hm
      have ep : (namesOf ds kw ks cls fit lamB).pars f = e.ps := by show ((ds[f]?).map (·.ps)).getD [] = _; rw [q]; rfl
      rw [ep]
      exact ⟨e.x, by show (ds[f]?).map (·.x) = _; rw [q]; rfl, He.glo_ok KX G (c.facts (hfa e (List.mem_of_getElem? q))), hF.kp, b.1, b.2, _, _, _, _, _, _, _, e.F, e.N, hF, hT f e q, scB_ok m1, m2, m3, m4⟩
  · have ex : (ds[f]?).map (·.x) = some x := ex
    cases q : ds[f]? with
    | none => rw [q] at ex; cases ex
    | some e => exact ⟨He.ga K e.x, by show (ds[f]?).map _ = _; rw [q]; rfl⟩
  · have ej : ks[j]? = some (x, i) := ej
    exact He.int_ok KX G (c.facts (hks _ (List.mem_of_getElem? ej)))
  · have ex : cls[k]? = some x := ex
    exact ⟨He.ga K x, by show (cls[k]?).map (He.ga K) = _; rw [ex]; rfl, He.glo_ok KX G (c.facts (hcl _ (List.mem_of_getElem? ex)))⟩
  · obtain ⟨x, ex, rfl⟩ := caI ea
    have q := List.all_eq_true.mp hc1 x (List.mem_of_getElem? ex)
    obtain ⟨q, q3⟩ := ands q
    obtain ⟨q1, q2⟩ := ands q
    exact ⟨RX.iniB_ok q1 (free _ (by decide)) hsup hst, xfB_ok q2, excB_ok q3⟩
  · obtain ⟨x, ex, rfl⟩ := caI ea
    obtain ⟨y, ey, rfl⟩ := caI eb
    obtain ⟨x1, x2⟩ := getD_of ex
    obtain ⟨y1, y2⟩ := getD_of ey
    have q := List.all_eq_true.mp (List.all_eq_true.mp hc2 k (List.mem_range.mpr x2)) j (List.mem_range.mpr y2)
    rw [x1, y1] at q
    exact of_decide_eq_true q
  · have ex : fit = some x := ex
    subst ex
    refine ⟨He.ga K x, He.glo_ok KX G (c.facts (hfit x rfl)), fun k a ea => ?_⟩
    obtain ⟨y, ey, rfl⟩ := caI ea
    exact of_decide_eq_true (List.all_eq_true.mp hcF y (List.mem_of_getElem? ey))
end
section
variable {P : Program} {w : World} {K : PySem.W.Frag} {h : Heap} {mg : Str → Option Value} {fa : Addr} {body : List Stmt} {ds : List DD} {kw : List (Nat × Nat × List Str × List Nat)} {ks : List (Str × Int)} {cls : List Str} {fit : Option Str} {lamB : Nat → Arguments → Scope → Expr → Bool} {T : Nat → Option Fd}
  {faL : List He.Fa} {fnL : List He.DefD} {tf : List He.Defn} {stL : Stmt} {nL : List Str} {F : Fd} {Wf n : Nat}
/-- a law over its top -/
theorem law_at (KX : K.In h) (hst : StatAt h) (G : h.Ns mainGlobals mg) (c : He.SaysX faL fnL [] tf (clsOkB P cls fit) w h K) (htf : ((("law" : Str), none) : He.Defn) ∈ tf) (hL : (⟨("law", none), "law", "law", defArgs stL, defBody stL, defScope stL, [], []⟩ : He.DefD) ∈ fnL) (hglo : He.Fa.glo "law" ∈ faL) (hmg : mg ("law" : Str) = some (.ref fa))
    (hfn : ∀ e ∈ ds, e.d body ∈ fnL) (hfa : ∀ e ∈ ds, He.Fa.glo e.x ∈ faL) (hblt : ∀ x ∈ bltNames, He.Fa.free x ∈ faL) (hks : ∀ q ∈ ks, He.Fa.int q.1 q.2 ∈ faL) (hcl : ∀ x ∈ cls, He.Fa.glo x ∈ faL) (hfit : ∀ x, fit = some x → He.Fa.glo x ∈ faL) (hsup : (P.main.scope.names.lookup ("super" : Str)).isSome = false)
    (hok : ds.all (DD.okB (namesOf ds kw ks cls fit lamB) body) = true) (hT : ∀ (f : Nat) (e : DD), ds[f]? = some e → T f = some e.F)
    (hb : ∀ (K : PySem.W.Frag) (f : Nat) (e : DD) (fd : FuncData), ds[f]? = some e → FunD K e.x e.x (defArgs (e.st body)) (defBody (e.st body)) (defScope (e.st body)) [] [] (He.ga K e.x) fd → BindOk K kw f e fd)
    (hl : LamOk (namesOf ds kw ks cls fit lamB) T lamB)
    (hfree : ∀ (q : Str) k params scope body, lamB k params scope body = true → (fnsOf K ds cls lamB).ml k ⟨q, params, body, scope⟩ ∧ (∀ y ∈ scope.names, y.2 ≠ .free) ∧ ∀ env, defaultsOf params env = ([], []))
    (S : FnScope nL ["script"] (defScope stL)) (hs : isTop { namesOf ds kw ks cls fit lamB with mks := true } nL [] (defScope stL) F.body (defBody stL) = true) (hm : F.modes = [false]) (hsl : F.slots = nL.length)
    (hbL : ∀ (kV doc pm : Value) (an : Option Addr) (cdv ct : Value) (us : List Value), us.length = (["script"] : List Str).length → bindArgs (PySem.W.fnOf "law" "law" (defArgs stL) (defBody stL) (defScope stL) .none kV doc pm an cdv ct) ⟨us, []⟩ = pure ((["script"] : List Str).zip us))
    (math : ∀ s : List Int, s.length ≤ 63 → (∀ z ∈ s, Builtin.Int.intBits z ≤ 1048576) → runF ⟨RF.G T Wf n, sigT T⟩ Wf F [.z (.scr s)] = .rt (.z (.bl true)) []) :
    ∃ (K : PySem.W.Frag) (c T : Addr), K.In h ∧ StatAt h ∧ h.get? T = some { cls := .none, data := .fields #[] } ∧ K.lookup T = none ∧ PySem.W.CodeHd h c T ∧ LawG P w K (n + 3) 63 "script" mg fa c T := by
  obtain ⟨fd, hF⟩ := c.t.d.defs hL
  have eg := He.glo_ok KX G (c.t.d.facts hglo)
  have ea : fa = He.ga K "law" := by rw [hmg] at eg; exact V.ref.inj (congrArg V.ref (Value.ref.inj (Option.some.inj eg)))
  subst ea
  have hF : FunD K "law" "law" (defArgs stL) (defBody stL) (defScope stL) [] [] (He.ga K "law") fd := hF
  have hcode : ∀ o fd', K.lookup (He.ga K "law") = some o → o.data = .func fd' → fd'.code = .ref (He.cT K ("law", none)).1 := by
    intro o fd' lo eo
    obtain ⟨oc, od, dV, kV, doc, pm, an, cdv, ct, osl, rfl, lk, hcd, _, _⟩ := hF.ex
    rw [lk] at lo
    obtain rfl := Option.some.inj lo
    cases eo
    obtain ⟨cc, rfl⟩ := He.codeIn_ref hcd
    have := He.codeOf_eq (p := (("law" : Str), none)) lk (c := cc) rfl
    show Value.ref cc = .ref (He.codeOf K _)
    rw [this]
  refine ⟨K, (He.cT K ("law", none)).1, (He.cT K ("law", none)).2, KX, hst, c.empty _ htf, c.out _ htf, PySem.W.codeHd_of_K KX (c.hd _ htf), fd, spLaw K (He.cT K ("law", none)).2 (runF ⟨RF.G T Wf n, sigT T⟩ Wf F), fun s u => FunD.bindsA (ps := ["script"]) hF hbL s [u] rfl,
    fun H a ns h1 h2 h3 h4 => ⟨a, ns, rfl, h4, h3, math ns h1 h2, fun _ => rfl⟩, fun base KB GB TB SB => ?_⟩
  obtain ⟨FD, t⟩ := top_of (P := P) (base := base) KX G c.t.d hfn hfa hblt hks hcl hfit c.more hsup SB hok hT (fun f e fd => hb K f e fd) hl fd
  exact t.law hF S hs hm hsl hcode TB fun k ps sc b h => hfree _ k ps sc b h
end
end RF
/-! MV: plain facts of the evaluator for the mathematics of all laws. -/
namespace RF
open PySem
abbrev zi (i : Int) : O := .z (.int i)
abbrev zb (b : Bool) : O := .z (.bl b)
abbrev ret (o : O) : CR := .rt o []
theorem run_eq {C : Cfg} {W : Nat} {F : Fd} {os : List O} (h : os.length = F.modes.length) : runF C W F os = RF.finish F.modes (evalSs C W F.body (os.map some ++ List.replicate (F.slots - os.length) none)) := if_pos h
/-! ### sizes -/
def Sm (k : Nat) (x : Int) : Prop := x.natAbs < 2 ^ k
theorem Sm.mono {j k : Nat} {x : Int} (h : Sm j x) (l : j ≤ k) : Sm k x := Nat.lt_of_lt_of_le h (Nat.pow_le_pow_right (by decide) l)
theorem Sm.log {k : Nat} {x : Int} (h : Sm k x) : x.natAbs.log2 ≤ k := by
  by_cases z : x.natAbs = 0
  · rw [z]; exact Nat.zero_le _
  · exact Nat.le_of_lt ((Nat.log2_lt z).mpr h)
theorem mulOk_of {j k : Nat} {x y : Int} (h1 : Sm j x) (h2 : Sm k y) (l : j + k < 1000000) : mulOk x y = true := by
  unfold mulOk
  have a := h1.log
  have b := h2.log
  exact decide_eq_true (by omega)
theorem divOk_of {k : Nat} {y : Int} (h : Sm k y) (l : k < 9000) (n : y ≠ 0) : divOk y = true := by
  unfold divOk
  have b := h.log
  rw [decide_eq_true n, decide_eq_true (show y.natAbs.log2 < 9000 by omega)]; rfl
theorem Sm.mul {j k : Nat} {x y : Int} (h1 : Sm j x) (h2 : Sm k y) : Sm (j + k) (x * y) := by
  unfold Sm at *
  rw [Int.natAbs_mul, Nat.pow_add]
  exact Nat.mul_lt_mul'' h1 h2
theorem Sm.add {k : Nat} {x y : Int} (h1 : Sm k x) (h2 : Sm k y) : Sm (k + 1) (x + y) := by
  unfold Sm at *
  rw [Nat.pow_succ]
  omega
theorem fmod_range {a b : Int} (hb : 0 < b) : 0 ≤ a.fmod b ∧ a.fmod b < b := by
  rw [Int.fmod_eq_emod_of_nonneg a (by omega)]
  exact ⟨Int.emod_nonneg a (by omega), Int.emod_lt_of_pos a hb⟩
theorem bits_le {k : Nat} {x : Int} (h : Sm k x) : 0 ≤ PySem.Builtin.Int.intBits x ∧ PySem.Builtin.Int.intBits x ≤ k + 1 := by
  have := h.log
  unfold PySem.Builtin.Int.intBits
  split <;> omega
theorem rg_nat {k : Nat} (h : k < 1000000) : rngOk (k : Int) = true := by unfold rngOk; rw [decide_eq_true (show -(2 ^ 40) < (k : Int) by omega), decide_eq_true (show (k : Int) < 2 ^ 40 by omega)]; rfl
theorem rg_int {k : Int} (h : -1000000 < k) (h' : k < 1000000) : rngOk k = true := by unfold rngOk; rw [decide_eq_true (show -(2 ^ 40) < k by omega), decide_eq_true (show k < 2 ^ 40 by omega)]; rfl
theorem lenOk_of {α : Type} {xs : List α} (h : xs.length < 2 ^ 20) : lenOk xs = true := decide_eq_true h
/-! ### comparisons -/
theorem eqv_int (a b : Int) : D.eqv (.int a) (.int b) = decide (a = b) := by
  unfold D.eqv D.py PySem.PyData.eqv
  by_cases h : a = b <;> simp [h]
theorem eq_int (a b : Int) : cmpop .eq (.int a) (.int b) = some (decide (a = b)) := by simp [cmpop, D.ok, eqv_int]
theorem ne_int (a b : Int) : cmpop .ne (.int a) (.int b) = some (!decide (a = b)) := by simp [cmpop, D.ok, eqv_int]
theorem eq_nil {ds : List D} (h : ∀ d ∈ ds, d.ok 59 = true) : cmpop .eq (.lst ds) (.lst []) = some ds.isEmpty := by
  have h1 : (D.lst ds).ok 60 = true := by simp only [D.ok]; exact List.all_eq_true.mpr h
  have h2 : (D.lst []).ok 60 = true := by simp [D.ok]
  simp only [cmpop, h1, h2, Bool.and_self, if_true]
  congr 1
  cases ds <;> simp [D.eqv, D.py, D.pys, PySem.PyData.eqv, PySem.PyData.eqvAll]
theorem ne_nil {ds : List D} (h : ∀ d ∈ ds, d.ok 59 = true) : cmpop .ne (.lst ds) (.lst []) = some (!ds.isEmpty) := by
  have h1 : (D.lst ds).ok 60 = true := by simp only [D.ok]; exact List.all_eq_true.mpr h
  have h2 : (D.lst []).ok 60 = true := by simp [D.ok]
  simp only [cmpop, h1, h2, Bool.and_self, if_true]
  congr 2
  cases ds <;> simp [D.eqv, D.py, D.pys, PySem.PyData.eqv, PySem.PyData.eqvAll]
/-! ### lists -/
/-- a list of ints, as a value -/
abbrev li (xs : List Int) : D := .lst (xs.map .int)
/-- .. owned -/
abbrev ol (xs : List Int) : O := .l (xs.map zi)
def nth (xs : List Int) (j : Nat) : Int := xs.getD j 0
theorem toDs_zi (xs : List Int) : O.toDs (xs.map zi) = xs.map .int := by rw [O.toDs_map, List.map_map]; rfl
theorem toD_ol (xs : List Int) : (ol xs).toD = li xs := by simp only [O.toD]; rw [toDs_zi]
theorem toDs_z (ds : List D) : O.toDs (ds.map .z) = ds := by
  rw [O.toDs_map, List.map_map]
  exact List.map_id' _
theorem toD_lz (ds : List D) : (O.l (ds.map .z)).toD = .lst ds := by simp only [O.toD]; rw [toDs_z]
theorem flat_ol (xs : List Int) : (ol xs).flat = true := by simp [O.flat, O.isZ]
theorem flat_lz (ds : List D) : (O.l (ds.map .z)).flat = true := by simp [O.flat, O.isZ]
theorem zi_map (xs : List Int) : xs.map zi = (xs.map D.int).map .z := by rw [List.map_map]; rfl
theorem ints_map (xs : List Int) : ints? (xs.map .int) = some xs := by
  induction xs with
  | nil => rfl
  | cons x xs ih => simp [ints?, ih]
theorem clean_zi (xs : List Int) : O.cleans (xs.map zi) = true := by rw [O.cleans_all]; simp [O.clean, D.lf]
theorem atI_nat {ds : List D} {j : Nat} : L2.atI ds (j : Int) = ds[j]? := by
  unfold L2.atI L2.ixN
  rw [if_pos (Int.natCast_nonneg j)]
  by_cases h : j < ds.length
  · rw [if_pos (by omega)]; simp
  · rw [if_neg (by omega), List.getElem?_eq_none (by omega)]
    simp
theorem atI_li {xs : List Int} {j : Nat} (h : j < xs.length) : L2.atI (xs.map D.int) (j : Int) = some (.int (nth xs j)) := by
  rw [atI_nat, List.getElem?_map, List.getElem?_eq_getElem h]
  simp [nth, List.getD, h]
theorem rangeL_eq : ∀ (k : Nat) (lo : Int), rangeL lo 1 k = (List.range k).map fun (j : Nat) => D.int (lo + j)
  | 0, _ => rfl
  | k + 1, lo => by
    rw [rangeL, rangeL_eq k, List.range_succ_eq_map, List.map_cons, List.map_map]
    congr 1
    · simp
    · apply List.map_congr_left
      intro j _
      simp only [Function.comp]
      congr 1
      omega
theorem range0 (k : Nat) : rangeL 0 1 k = (List.range k).map fun (j : Nat) => D.int j := by rw [rangeL_eq]; simp
theorem enumL_eq : ∀ (xs : List D) (k : Nat), enumL k xs = (xs.zipIdx k).map fun p => D.tup [.int p.2, p.1]
  | [], _ => rfl
  | x :: xs, k => by rw [enumL, enumL_eq xs (k + 1), List.zipIdx_cons]; rfl
/-! ### comprehensions -/
theorem comp_go {α : Type} {elt cond : Env → R O} {t : Tg} {own : List Nat} {env0 : Env} {q : α → D} {p : α → Bool} {f : α → O} :
    ∀ {xs : List α} {acc : List O}, (∀ x ∈ xs, ∃ e1, tgE t (.z (q x)) env0 = some e1 ∧ cond e1 = .ok (zb (p x)) e1 ∧ (p x = true → elt e1 = .ok (f x) e1) ∧ wipeE e1 own = env0) → acc.length + xs.length ≤ 2 ^ 20 →
      evalComp elt t cond own (xs.map q) env0 acc = .ok (acc ++ (xs.filter p).map f) env0
  | [], acc, _, _ => by simp [evalComp]
  | x :: xs, acc, h, hl => by
    obtain ⟨e1, h1, h2, h3, h4⟩ := h x List.mem_cons_self
    have ih := fun (acc' : List O) (hl' : acc'.length + xs.length ≤ 2 ^ 20) => comp_go (xs := xs) (acc := acc') (fun y hy => h y (List.mem_cons_of_mem _ hy)) hl'
    simp only [List.length_cons] at hl
    rw [List.map_cons, evalComp, h1]
    simp only [h2, R.nox_ok, R.bind_ok]
    cases hp : p x with
    | false =>
      rw [List.filter_cons_of_neg (by simp [hp]), h4, ih acc (by omega)]
    | true =>
      rw [List.filter_cons_of_pos hp, List.map_cons]
      simp only [lenOk_of (show acc.length < 2 ^ 20 by omega), if_true, h3 hp, R.nox_ok, R.bind_ok, h4]
      rw [ih (acc ++ [f x]) (by simp; omega)]
      simp
theorem ev_comp {α : Type} {C : Cfg} {elt : X} {t : Tg} {it : It} {cd : Xo} {own : List Nat} {env env1 : Env} (xs : List α) (q : α → D) (p : α → Bool) (f : α → O) (h1 : evalIt C it env = .ok (xs.map q) env1)
    (h2 : ∀ x ∈ xs, ∃ e1, tgE t (.z (q x)) (wipeE env1 own) = some e1 ∧ evalCond C cd e1 = .ok (zb (p x)) e1 ∧ (p x = true → evalE C elt e1 = .ok (f x) e1) ∧ wipeE e1 own = wipeE env1 own)
    (hl : xs.length ≤ 2 ^ 20) (hp : (pureX elt && pureIt it && pureXo cd) = true) (hc : ∀ x ∈ xs, p x = true → (f x).clean = true) : evalE C (.comp elt t it cd own) env = .ok (.l ((xs.filter p).map f)) env := by
  have go := comp_go (acc := []) h2 (by simpa using hl)
  rw [List.nil_append] at go
  have cl : O.cleans ((xs.filter p).map f) = true := by
    rw [O.cleans_all, List.all_eq_true]
    intro o ho
    obtain ⟨x, hx, rfl⟩ := List.mem_map.mp ho
    obtain ⟨hx1, hx2⟩ := List.mem_filter.mp hx
    exact hc x hx1 hx2
  rw [evalE, h1]
  simp only [R.bind_ok, go, hp, cl, Bool.and_self, if_true]
/-- without a condition -/
theorem ev_compA {α : Type} {C : Cfg} {elt : X} {t : Tg} {it : It} {own : List Nat} {env env1 : Env} (xs : List α) (q : α → D) (f : α → O) (h1 : evalIt C it env = .ok (xs.map q) env1)
    (h2 : ∀ x ∈ xs, ∃ e1, tgE t (.z (q x)) (wipeE env1 own) = some e1 ∧ evalE C elt e1 = .ok (f x) e1 ∧ wipeE e1 own = wipeE env1 own)
    (hl : xs.length ≤ 2 ^ 20) (hp : (pureX elt && pureIt it) = true) (hc : ∀ x ∈ xs, (f x).clean = true) : evalE C (.comp elt t it .none own) env = .ok (.l (xs.map f)) env := by
  have h := ev_comp (cd := .none) xs q (fun _ => true) f h1 (fun x hx => by
    obtain ⟨e1, a, b, c⟩ := h2 x hx
    exact ⟨e1, a, by rw [evalCond], fun _ => b, c⟩) hl (by simpa [pureXo] using hp) fun x hx _ => hc x hx
  rwa [List.filter_eq_self.mpr (fun _ _ => rfl)] at h
/-- .. where the items may be lists -/
theorem ev_compR {α : Type} {C : Cfg} {elt : X} {t : Tg} {it : It} {cd : Xo} {own : List Nat} {env env1 : Env} (xs : List α) (q : α → D) (p : α → Bool) (f : α → O) (h1 : evalIt C it env = .ok (xs.map q) env1)
    (h2 : ∀ x ∈ xs, ∃ e1, tgE t (.z (q x)) (wipeE env1 own) = some e1 ∧ evalCond C cd e1 = .ok (zb (p x)) e1 ∧ (p x = true → evalE C elt e1 = .ok (f x) e1) ∧ wipeE e1 own = wipeE env1 own)
    (hl : xs.length ≤ 2 ^ 20) (hr : restore env1 (wipeE env1 own) own = env) : evalE C (.comp elt t it cd own) env = .ok (.l ((xs.filter p).map f)) env := by
  have go := comp_go (acc := []) h2 (by simpa using hl)
  rw [List.nil_append] at go
  rw [evalE, h1]
  simp only [R.bind_ok, go, hr]
  split <;> rfl
/-- plain data to a depth, no list too long -/
def Gd : Nat → D → Prop
  | _, .non => True
  | _, .bl _ => True
  | _, .int _ => True
  | _, .str x => PyData.strOk x = true
  | n + 1, .lst ds => ds.length < 1000 ∧ ∀ d ∈ ds, Gd n d
  | n + 1, .tup ds => ds.length < 1000 ∧ ∀ d ∈ ds, Gd n d
  | _, _ => False
theorem Gd.ok : ∀ {n : Nat} {d : D}, Gd n d → d.ok n = true
  | n, .non, _ => by cases n <;> rfl
  | n, .bl _, _ => by cases n <;> rfl
  | n, .int _, _ => by cases n <;> rfl
  | n, .str x, h => by cases n <;> (simp only [Gd] at h; simpa [D.ok] using h)
  | n + 1, .lst ds, h => by
    simp only [Gd] at h
    simp only [D.ok, List.all_eq_true]
    exact fun d hd => Gd.ok (h.2 d hd)
  | n + 1, .tup ds, h => by
    simp only [Gd] at h
    simp only [D.ok, List.all_eq_true]
    exact fun d hd => Gd.ok (h.2 d hd)
  | 0, .lst _, h => by simp [Gd] at h
  | 0, .tup _, h => by simp [Gd] at h
  | n, .scr _, h => by cases n <;> simp [Gd] at h
  | n, .fn _, h => by cases n <;> simp [Gd] at h
  | n, .obj _ _, h => by cases n <;> simp [Gd] at h
  | n, .exc _ _, h => by cases n <;> simp [Gd] at h
  | n, .clo _ _, h => by cases n <;> simp [Gd] at h
theorem ok_mono : ∀ {n m : Nat} {d : D}, d.ok n = true → n ≤ m → d.ok m = true
  | n, m, .non, _, _ => by cases m <;> rfl
  | n, m, .bl _, _, _ => by cases m <;> rfl
  | n, m, .int _, _, _ => by cases m <;> rfl
  | n, m, .str x, h, _ => by cases n <;> cases m <;> simpa [D.ok] using h
  | n + 1, m + 1, .lst ds, h, l => by
    simp only [D.ok, List.all_eq_true] at h ⊢
    exact fun d hd => ok_mono (h d hd) (by omega)
  | n + 1, m + 1, .tup ds, h, l => by
    simp only [D.ok, List.all_eq_true] at h ⊢
    exact fun d hd => ok_mono (h d hd) (by omega)
  | n + 1, 0, _, _, l => by omega
  | 0, _, .lst _, h, _ => by simp [D.ok] at h
  | 0, _, .tup _, h, _ => by simp [D.ok] at h
  | n, m, .scr _, h, _ => by cases n <;> simp [D.ok] at h
  | n, m, .fn _, h, _ => by cases n <;> simp [D.ok] at h
  | n, m, .obj _ _, h, _ => by cases n <;> simp [D.ok] at h
  | n, m, .exc _ _, h, _ => by cases n <;> simp [D.ok] at h
  | n, m, .clo _ _, h, _ => by cases n <;> simp [D.ok] at h
theorem Gd.mono : ∀ {n m : Nat} {d : D}, Gd n d → n ≤ m → Gd m d
  | n, m, .non, _, _ => by cases m <;> trivial
  | n, m, .bl _, _, _ => by cases m <;> trivial
  | n, m, .int _, _, _ => by cases m <;> trivial
  | n, m, .str x, h, _ => by cases n <;> cases m <;> simpa [Gd] using h
  | n + 1, m + 1, .lst ds, h, l => by
    simp only [Gd] at h ⊢
    exact ⟨h.1, fun d hd => Gd.mono (h.2 d hd) (by omega)⟩
  | n + 1, m + 1, .tup ds, h, l => by
    simp only [Gd] at h ⊢
    exact ⟨h.1, fun d hd => Gd.mono (h.2 d hd) (by omega)⟩
  | n + 1, 0, _, _, l => by omega
  | 0, _, .lst _, h, _ => by simp [Gd] at h
  | 0, _, .tup _, h, _ => by simp [Gd] at h
  | n, m, .scr _, h, _ => by cases n <;> simp [Gd] at h
  | n, m, .fn _, h, _ => by cases n <;> simp [Gd] at h
  | n, m, .obj _ _, h, _ => by cases n <;> simp [Gd] at h
  | n, m, .exc _ _, h, _ => by cases n <;> simp [Gd] at h
  | n, m, .clo _ _, h, _ => by cases n <;> simp [Gd] at h
theorem gd_li {xs : List Int} (h : xs.length < 1000) : Gd 1 (li xs) := by
  simp only [Gd]
  refine ⟨by simpa using h, fun d hd => ?_⟩
  obtain ⟨i, _, rfl⟩ := List.mem_map.mp hd
  trivial
/-! ### loops -/
theorem ev_for {α : Type} {t : Tg} {body : Env → Out} {q : α → D} (J : Nat → Env → Prop) : ∀ {xs : List α} {k : Nat} {e : Env}, J k e → (∀ (j : Nat) (x : α) (e : Env), xs[j]? = some x → J (k + j) e → ∃ e1 e2, tgE t (.z (q x)) e = some e1 ∧ body e1 = .nx e2 ∧ J (k + j + 1) e2) →
    ∃ e', evalFor t body (xs.map q) e = .nx e' ∧ J (k + xs.length) e'
  | [], k, e, h, _ => ⟨e, by simp [evalFor], h⟩
  | x :: xs, k, e, h, st => by
    obtain ⟨e1, e2, h1, h2, h3⟩ := st 0 x e rfl h
    obtain ⟨e', h4, h5⟩ := ev_for J (xs := xs) (k := k + 1) (e := e2) h3 fun j y e' hj hJ => by
      have := st (j + 1) y e' (by simpa using hj) (by rw [show k + (j + 1) = k + 1 + j by omega]; exact hJ)
      rw [show k + (j + 1) + 1 = k + 1 + j + 1 by omega] at this
      exact this
    refine ⟨e', ?_, by rw [List.length_cons, show k + (xs.length + 1) = k + 1 + xs.length by omega]; exact h5⟩
    rw [List.map_cons, evalFor, h1]
    simp only [h2, h4]
/-- a loop that gives nothing back: one state, or an end -/
theorem nxt {C : Cfg} {W : Nat} {s : RF.S} {r : Ss} {e e' : Env} (h : evalS C W s e = .nx e') : evalSs C W (.cons s r) e = evalSs C W r e' := by rw [evalSs, h]
theorem nxr {C : Cfg} {W : Nat} {s : RF.S} {r : Ss} {e e' : Env} {o : O} (h : evalS C W s e = .rt o e') : evalSs C W (.cons s r) e = .rt o e' := by rw [evalSs, h]
theorem st_ite {C : Cfg} {W : Nat} {c : RF.X} {a b : Ss} {e e' : Env} {k : Bool} (h : evalE C c e = .ok (zb k) e') : evalS C W (.ite c a b) e = if k then evalSs C W a e' else evalSs C W b e' := by
  rw [evalS, h]
  cases k <;> rfl
theorem view_nv {pu : Bool} {a : RF.X} {r : R O} {env : Env} (hv : ∀ i, a ≠ .v i) : viewE pu a r env = r.bind fun o env1 => .ok o.toD env1 := by
  cases a <;> first | rfl | exact absurd rfl (hv _)
theorem ret_ok {C : Cfg} {W : Nat} {e : RF.X} {o : O} {env env1 : Env} (hv : ∀ i, e ≠ .v i) (h : evalE C e env = .ok o env1) : evalS C W (.ret e) env = .rt o env1 := by
  rw [evalS, h]
  · rfl
  · intro i z; exact hv i z
theorem set_ok {C : Cfg} {W i : Nat} {e : RF.X} {o : O} {env env1 : Env} (h : evalE C e env = .ok o env1) : evalS C W (.set i e) env = .nx (env1.set i (some o)) := by
  rw [evalS, h]; rfl
theorem expr_ok {C : Cfg} {W : Nat} {e : RF.X} {o : O} {env env1 : Env} (h : evalE C e env = .ok o env1) : evalS C W (.expr e) env = .nx env1 := by
  rw [evalS, h]; rfl
theorem ev_nil {C : Cfg} {e : Env} : evalE C (.lst .nil) e = .ok (.l []) e := by rw [evalE, evalEs]; rfl
theorem eq_nil_ok {C : Cfg} {x : RF.X} {env env1 : Env} {ds : List D} (hv : ∀ i, x ≠ .v i) (h : evalE C x env = .ok (.l (ds.map .z)) env1) (ok : ∀ d ∈ ds, d.ok 59 = true) : evalE C (.cmp .eq x (.lst .nil)) env = .ok (zb ds.isEmpty) env1 := by
  rw [evalE, view_nv hv, h]
  simp only [R.bind_ok, toD_lz]
  rw [view_nv (fun i z => by cases z), ev_nil]
  simp only [R.bind_ok, O.toD, O.toDs, eq_nil ok]
  rfl
theorem ne_nil_ok {C : Cfg} {x : RF.X} {env env1 : Env} {ds : List D} (hv : ∀ i, x ≠ .v i) (h : evalE C x env = .ok (.l (ds.map .z)) env1) (ok : ∀ d ∈ ds, d.ok 59 = true) : evalE C (.cmp .ne x (.lst .nil)) env = .ok (zb (!ds.isEmpty)) env1 := by
  rw [evalE, view_nv hv, h]
  simp only [R.bind_ok, toD_lz]
  rw [view_nv (fun i z => by cases z), ev_nil]
  simp only [R.bind_ok, O.toD, O.toDs, ne_nil ok]
  rfl
theorem or_f {C : Cfg} {a b : RF.X} {es : Xs} {env env1 : Env} (h : evalE C a env = .ok (zb false) env1) : evalOr C (.cons a (.cons b es)) env = evalOr C (.cons b es) env1 := by
  conv => lhs; unfold evalOr
  rw [h]; rfl
theorem or_t {C : Cfg} {a b : RF.X} {es : Xs} {env env1 : Env} (h : evalE C a env = .ok (zb true) env1) : evalOr C (.cons a (.cons b es)) env = .ok (zb true) env1 := by
  conv => lhs; unfold evalOr
  rw [h]; rfl
theorem or_1 {C : Cfg} {a : RF.X} {env : Env} : evalOr C (.cons a .nil) env = evalE C a env := by
  conv => lhs; unfold evalOr
theorem and_f {C : Cfg} {a b : RF.X} {es : Xs} {env env1 : Env} (h : evalE C a env = .ok (zb false) env1) : evalAnd C (.cons a (.cons b es)) env = .ok (zb false) env1 := by
  conv => lhs; unfold evalAnd
  rw [h]; rfl
theorem and_t {C : Cfg} {a b : RF.X} {es : Xs} {env env1 : Env} (h : evalE C a env = .ok (zb true) env1) : evalAnd C (.cons a (.cons b es)) env = evalAnd C (.cons b es) env1 := by
  conv => lhs; unfold evalAnd
  rw [h]; rfl
theorem and_1 {C : Cfg} {a : RF.X} {env : Env} : evalAnd C (.cons a .nil) env = evalE C a env := by
  conv => lhs; unfold evalAnd
theorem not_ok {C : Cfg} {a : RF.X} {env env1 : Env} {b : Bool} (h : evalE C a env = .ok (zb b) env1) : evalE C (.not a) env = .ok (zb (!b)) env1 := by rw [evalE, h]; rfl
theorem ite_ff {C : Cfg} {W : Nat} {c : RF.X} {a : Ss} {e e' : Env} (h : evalE C c e = .ok (zb false) e') : evalS C W (.ite c a .nil) e = .nx e' := by
  rw [st_ite h]; simp [evalSs]
theorem ite_tr {C : Cfg} {W : Nat} {c x : RF.X} {b : Ss} {e e' e2 : Env} {o : O} (h : evalE C c e = .ok (zb true) e') (hv : ∀ i, x ≠ .v i) (h2 : evalE C x e' = .ok o e2) : evalS C W (.ite c (.cons (.ret x) .nil) b) e = .rt o e2 := by
  rw [st_ite h]
  simp only [if_true]
  rw [evalSs, ret_ok hv h2]
/-! ### iterables -/
theorem it_rng1 {C : Cfg} {a : RF.X} {e e1 : Env} {k : Int} (hr : rngOk k = true) (h : evalE C a e = .ok (zi k) e1) : evalIt C (.rng1 a) e = .ok (rangeL 0 1 k.toNat) e1 := by rw [evalIt, h]; simp only [RF.R.bind, hr, if_true]
theorem it_rngN {C : Cfg} {a : RF.X} {e e1 : Env} {k : Nat} (hk : k < 1000000) (h : evalE C a e = .ok (zi k) e1) : evalIt C (.rng1 a) e = .ok ((List.range k).map fun (j : Nat) => D.int j) e1 := by rw [it_rng1 (rg_nat hk) h, Int.toNat_natCast, range0]
end RF
/-! MW: the evaluator by small rules, where nothing changes. -/
namespace RF
open PySem
theorem vw {C : Cfg} {a : X} {e : Env} {o : O} {pu : Bool} (h : evalE C a e = .ok o e) : viewE pu a (evalE C a e) e = .ok o.toD e := by
  by_cases hv : ∃ i, a = .v i
  · obtain ⟨i, rfl⟩ := hv
    rw [evalE] at h ⊢
    simp only [viewE]
    cases q : getE e i with
    | none => rw [q] at h; cases h
    | some u =>
      rw [q] at h
      cases u with
      | z d => simp only [R.ok.injEq] at h; rw [← h.1]; rfl
      | l os =>
        simp only [R.ok.injEq] at h
        rw [← h.1]
        simp only [h.2, R.bind_ok]
        split <;> rfl
      | t os =>
        simp only [R.ok.injEq] at h
        rw [← h.1]
        simp only [h.2, R.bind_ok]
        split <;> rfl
  · rw [view_nv (fun i z => hv ⟨i, z⟩), h]; rfl
/-- a list of ints lies in slot i -/
def See (e : Env) (i : Nat) (xs : List Int) : Prop := ∃ o, getE e i = some o ∧ o.toD = li xs ∧ o.flat = true
theorem See.z {e : Env} {i : Nat} {xs : List Int} (h : getE e i = some (.z (li xs))) : See e i xs := ⟨_, h, rfl, rfl⟩
theorem See.l {e : Env} {i : Nat} {xs : List Int} (h : getE e i = some (ol xs)) : See e i xs := ⟨_, h, toD_ol xs, flat_ol xs⟩
theorem See.view {e : Env} {i : Nat} {xs : List Int} {r : R O} (h : See e i xs) : viewE true (.v i) r e = .ok (li xs) e := by
  obtain ⟨o, h1, h2, h3⟩ := h
  simp only [viewE, h1]
  cases o with
  | z d => simp only [O.toD] at h2; rw [h2]
  | l os => simp only [h3, Bool.and_self, if_true, h2]
  | t os => simp only [h3, Bool.and_self, if_true, h2]
theorem ev_n {C : Cfg} {e : Env} {k : Int} : evalE C (.n k) e = .ok (zi k) e := by rw [evalE]
theorem ev_gk {C : Cfg} {e : Env} {j : Nat} {k : Int} : evalE C (.gk j k) e = .ok (zi k) e := by rw [evalE]
theorem ev_tt {C : Cfg} {e : Env} {b : Bool} : evalE C (.tt b) e = .ok (zb b) e := by rw [evalE]
theorem ev_s {C : Cfg} {e : Env} {x : Str} : evalE C (.s x) e = .ok (.z (.str x)) e := by rw [evalE]
theorem ev_non {C : Cfg} {e : Env} : evalE C .non e = .ok (.z .non) e := by rw [evalE]
theorem ev_v {C : Cfg} {e : Env} {i : Nat} {d : D} (h : getE e i = some (.z d)) : evalE C (.v i) e = .ok (.z d) e := by rw [evalE, h]
/-- an owned list is shared -/
theorem ev_vf {C : Cfg} {e : Env} {i : Nat} {o : O} (h : getE e i = some o) (hz : o.isZ = false) : evalE C (.v i) e = .ok (frz o) (e.set i (some (frz o))) := by
  rw [evalE, h]
  cases o <;> first | rfl | cases hz
theorem See.ix {C : Cfg} {e : Env} {i : Nat} {b : X} {xs : List Int} {j : Nat} (h : See e i xs) (hp : pureX b = true) (hb : evalE C b e = .ok (zi j) e) (hj : j < xs.length) : evalE C (.ix (.v i) b) e = .ok (zi (nth xs j)) e := by
  rw [evalE, hp, h.view]
  simp only [R.bind_ok, hb, atI_li hj]
  rfl
theorem bin_ok {C : Cfg} {p : Bop} {a b : X} {e : Env} {x y : O} {r : O} (ha : evalE C a e = .ok x e) (hb : evalE C b e = .ok y e) (h : binop p x.toD y.toD = some r) : evalE C (.bin p a b) e = .ok r e := by
  rw [evalE, vw ha]
  simp only [R.bind_ok]
  rw [vw hb]
  simp only [R.bind_ok, h, ofOpt_some]
theorem cmp_ok {C : Cfg} {p : Cop} {a b : X} {e : Env} {x y : O} {r : Bool} (ha : evalE C a e = .ok x e) (hb : evalE C b e = .ok y e) (h : cmpop p x.toD y.toD = some r) : evalE C (.cmp p a b) e = .ok (zb r) e := by
  rw [evalE, vw ha]
  simp only [R.bind_ok]
  rw [vw hb]
  simp only [R.bind_ok, h, ofOpt_some, Option.map_some]
section
variable {C : Cfg} {a b : X} {e : Env} {x y : Int}
theorem add_ok (ha : evalE C a e = .ok (zi x) e) (hb : evalE C b e = .ok (zi y) e) : evalE C (.bin .add a b) e = .ok (zi (x + y)) e := bin_ok ha hb rfl
theorem sub_ok (ha : evalE C a e = .ok (zi x) e) (hb : evalE C b e = .ok (zi y) e) : evalE C (.bin .sub a b) e = .ok (zi (x - y)) e := bin_ok ha hb rfl
theorem lt_ok (ha : evalE C a e = .ok (zi x) e) (hb : evalE C b e = .ok (zi y) e) : evalE C (.cmp .lt a b) e = .ok (zb (decide (x < y))) e := cmp_ok ha hb rfl
theorem le_ok (ha : evalE C a e = .ok (zi x) e) (hb : evalE C b e = .ok (zi y) e) : evalE C (.cmp .le a b) e = .ok (zb (decide (x ≤ y))) e := cmp_ok ha hb rfl
theorem gt_ok (ha : evalE C a e = .ok (zi x) e) (hb : evalE C b e = .ok (zi y) e) : evalE C (.cmp .gt a b) e = .ok (zb (decide (y < x))) e := cmp_ok ha hb rfl
theorem ge_ok (ha : evalE C a e = .ok (zi x) e) (hb : evalE C b e = .ok (zi y) e) : evalE C (.cmp .ge a b) e = .ok (zb (decide (y ≤ x))) e := cmp_ok ha hb rfl
theorem eq_ok (ha : evalE C a e = .ok (zi x) e) (hb : evalE C b e = .ok (zi y) e) : evalE C (.cmp .eq a b) e = .ok (zb (decide (x = y))) e := cmp_ok ha hb (eq_int x y)
theorem ne_ok (ha : evalE C a e = .ok (zi x) e) (hb : evalE C b e = .ok (zi y) e) : evalE C (.cmp .ne a b) e = .ok (zb (!decide (x = y))) e := cmp_ok ha hb (ne_int x y)
theorem neg_ok (ha : evalE C a e = .ok (zi x) e) : evalE C (.neg a) e = .ok (zi (-x)) e := by rw [evalE, ha]; rfl
end
theorem cmp2_ok {C : Cfg} {p q : Cop} {a b c : X} {e : Env} {x y z : O} {r s : Bool} (ha : evalE C a e = .ok x e) (hb : evalE C b e = .ok y e) (hc : evalE C c e = .ok z e) (h : cmpop p x.toD y.toD = some r) (h2 : cmpop q y.toD z.toD = some s) : evalE C (.cmp2 p q a b c) e = .ok (zb (r && s)) e := by
  rw [evalE, vw ha]
  simp only [R.bind_ok]
  rw [vw hb]
  simp only [R.bind_ok, h]
  cases r with
  | false => rfl
  | true =>
    simp only
    rw [vw hc]
    simp only [R.bind_ok, h2, ofOpt_some, Option.map_some, Bool.true_and]
/-! ### values of a builtin -/
theorem vs1 {C : Cfg} {a : X} {e : Env} {o : O} (h : evalE C a e = .ok o e) : evalVs C (.cons a .nil) e = .ok [o.toD] e := by
  rw [evalVs, vw h]
  simp only [R.bind_ok]
  rw [evalVs]
  rfl
theorem See.vs {C : Cfg} {e : Env} {i : Nat} {xs : List Int} (h : See e i xs) : evalVs C (.cons (.v i) .nil) e = .ok [li xs] e := by
  rw [evalVs]
  simp only [pureXs]
  rw [h.view]
  simp only [R.bind_ok]
  rw [evalVs]
  rfl
theorem blv_ok {C : Cfg} {k : Blt} {es : Xs} {e : Env} {ds : List D} {r : O} (h : evalVs C es e = .ok ds e) (h2 : bltV k ds = some r) : evalE C (.blt k es) e = .ok r e := by
  rw [evalE, h]
  simp only [R.bind_ok, h2, ofOpt_some]
theorem len_li (xs : List Int) : bltV .len [li xs] = some (zi xs.length) := by simp [bltV]
theorem sum_li (xs : List Int) : bltV .sum [li xs] = some (zi xs.sum) := by simp only [bltV, ints_map]; rfl
theorem max_li {xs : List Int} {m : Int} (h : xs.max? = some m) : bltV .max1 [li xs] = some (zi m) := by simp only [bltV, ints_map, Option.bind_some, h]; rfl
theorem See.len {C : Cfg} {e : Env} {i : Nat} {xs : List Int} (h : See e i xs) : evalE C (.blt .len (.cons (.v i) .nil)) e = .ok (zi xs.length) e := blv_ok h.vs (len_li xs)
theorem See.sum {C : Cfg} {e : Env} {i : Nat} {xs : List Int} (h : See e i xs) : evalE C (.blt .sum (.cons (.v i) .nil)) e = .ok (zi xs.sum) e := blv_ok h.vs (sum_li xs)
theorem See.max {C : Cfg} {e : Env} {i : Nat} {xs : List Int} {m : Int} (h : See e i xs) (hm : xs.max? = some m) : evalE C (.blt .max1 (.cons (.v i) .nil)) e = .ok (zi m) e := blv_ok h.vs (max_li hm)
theorem len_ok {C : Cfg} {a : X} {e : Env} {os : List O} (h : evalE C a e = .ok (.l os) e) : evalE C (.blt .len (.cons a .nil)) e = .ok (zi os.length) e := by
  refine blv_ok (vs1 h) ?_
  simp [O.toD, bltV, O.toDs_map]
theorem sum_ok {C : Cfg} {a : X} {e : Env} {xs : List Int} (h : evalE C a e = .ok (ol xs) e) : evalE C (.blt .sum (.cons a .nil)) e = .ok (zi xs.sum) e := by
  refine blv_ok (vs1 h) ?_
  rw [toD_ol, sum_li]
theorem max_ok {C : Cfg} {a : X} {e : Env} {xs : List Int} {m : Int} (h : evalE C a e = .ok (ol xs) e) (hm : xs.max? = some m) : evalE C (.blt .max1 (.cons a .nil)) e = .ok (zi m) e := by
  refine blv_ok (vs1 h) ?_
  rw [toD_ol, max_li hm]
theorem lst1_ok {C : Cfg} {a : X} {e : Env} {o : O} (h : evalE C a e = .ok o e) : evalE C (.lst (.cons a .nil)) e = .ok (.l [o]) e := by
  rw [evalE, evalEs, h]
  simp only [R.bind_ok]
  rw [evalEs]
  rfl
theorem lst2_ok {C : Cfg} {a b : X} {e : Env} {o u : O} (h : evalE C a e = .ok o e) (h2 : evalE C b e = .ok u e) : evalE C (.lst (.cons a (.cons b .nil))) e = .ok (.l [o, u]) e := by
  rw [evalE, evalEs, h]
  simp only [R.bind_ok]
  rw [evalEs, h2]
  simp only [R.bind_ok]
  rw [evalEs]
  rfl
/-- joining two lists -/
theorem cat_li (xs ys : List Int) (h : xs.length < 2 ^ 20) (h2 : ys.length < 2 ^ 20) : binop .add (li xs) (li ys) = some (ol (xs ++ ys)) := by
  simp only [binop, lenOk_of (show (xs.map D.int).length < 2 ^ 20 by simpa using h), lenOk_of (show (ys.map D.int).length < 2 ^ 20 by simpa using h2), Bool.and_self, if_true]
  rw [← List.map_append, ← zi_map]
/-! ### calls -/
theorem arg_c {C : Cfg} {a : X} {es : Xs} {ms : List Bool} {e e1 e2 : Env} {o : O} {as : List Ar} (h : evalE C a e = .ok o e1) (h2 : evalArgs C es ms e1 = .ok as e2) : evalArgs C (.cons a es) (false :: ms) e = .ok (.val o.toD :: as) e2 := by
  rw [evalArgs, h]
  simp only [R.bind_ok, h2]
theorem arg_0 {C : Cfg} {e : Env} : evalArgs C .nil [] e = .ok [] e := by rw [evalArgs]
theorem val_ref (ds : List D) : (ds.map Ar.val).map Ar.isRef = List.replicate ds.length false := by
  induction ds with
  | nil => rfl
  | cons d ds ih => simp [ih, List.replicate_succ, Ar.isRef]
theorem val_fetch (e : Env) (ds : List D) : Ar.fetch e (ds.map Ar.val) = some (ds.map .z) := by
  induction ds with
  | nil => rfl
  | cons d ds ih => simp [Ar.fetch, ih]
theorem val_slots (ds : List D) : Ar.slots (ds.map Ar.val) = [] := by
  induction ds with
  | nil => rfl
  | cons d ds ih => simp [Ar.slots, ih]
theorem do_val {C : Cfg} {p : Bool} {f : Nat} {e e1 : Env} (ds : List D) (hs : C.sig f = List.replicate ds.length false) : doCall C p f e e1 (ds.map .val) = back0 p e e1 (C.call f (ds.map .z)) := by
  unfold doCall
  rw [if_pos (by rw [val_ref, hs]), val_fetch, val_slots]
theorem call_rt {C : Cfg} {f : Nat} {es : Xs} {e e1 : Env} {o : O} (ds : List D) (hs : C.sig f = List.replicate ds.length false) (h : evalArgs C es (List.replicate ds.length false) e = .ok (ds.map .val) e1) (hc : C.call f (ds.map .z) = ret o) (cl : o.clean = true) : evalE C (.call true f es) e = .ok o e := by
  rw [evalE, hs, h]
  simp only [R.bind_ok]
  rw [do_val ds hs, hc]
  simp [ret, back0, cl]
theorem call_ex {C : Cfg} {f : Nat} {es : Xs} {e e1 : Env} {c : Nat} {us : List D} (ds : List D) (hs : C.sig f = List.replicate ds.length false) (h : evalArgs C es (List.replicate ds.length false) e = .ok (ds.map .val) e1) (hc : C.call f (ds.map .z) = .ex c us) : evalE C (.call true f es) e = .ex c us := by
  rw [evalE, hs, h]
  simp only [R.bind_ok]
  rw [do_val ds hs, hc]
  rfl
theorem clean_ol (xs : List Int) : (ol xs).clean = true := clean_zi xs
/-! ### more iterables -/
theorem it_seq {C : Cfg} {a : X} {e e1 : Env} {o : O} {ds : List D} (h : evalE C a e = .ok o e1) (hd : o.toD = .lst ds) : evalIt C (.seq a) e = .ok ds e1 := by rw [evalIt, h]; simp only [R.bind_ok, hd]
theorem it_enum {C : Cfg} {a : X} {e e1 : Env} {o : O} {xs : List Int} (h : evalE C a e = .ok o e1) (hd : o.toD = li xs) : evalIt C (.enum a) e = .ok ((List.range xs.length).map fun (j : Nat) => D.tup [.int j, .int (nth xs j)]) e1 := by
  rw [evalIt, h]
  simp only [R.bind_ok, hd]
  congr 1
  rw [enumL_eq]
  apply List.ext_getElem
  · simp
  · intro j h1 h2
    simp only [List.length_map, List.length_zipIdx] at h1
    simp [nth, List.getD, h1]
theorem it_rng2' {C : Cfg} {a b : X} {e : Env} {m n : Int} (hm : rngOk m = true) (hn : rngOk n = true) (h : evalE C a e = .ok (zi m) e) (h2 : evalE C b e = .ok (zi n) e) : evalIt C (.rng2 a b) e = .ok (rangeL m 1 (n - m).toNat) e := by
  rw [evalIt, h]
  simp only [R.bind_ok, h2, hm, hn, Bool.and_self, if_true]
theorem rangeLN (m k : Nat) : rangeL m 1 k = (List.range k).map fun (j : Nat) => D.int (m + j : Nat) := by
  rw [rangeL_eq]
  apply List.map_congr_left
  intro j _
  rw [Int.natCast_add]
theorem it_rng2 {C : Cfg} {a b : X} {e : Env} {m n : Nat} (hm : m < 1000000) (hn : n < 1000000) (h : evalE C a e = .ok (zi m) e) (h2 : evalE C b e = .ok (zi n) e) : evalIt C (.rng2 a b) e = .ok ((List.range (n - m)).map fun (j : Nat) => D.int (m + j : Nat)) e := by
  rw [it_rng2' (rg_nat hm) (rg_nat hn) h h2, show ((n : Int) - (m : Int)).toNat = n - m by omega, rangeLN]
/-! ### statements -/
theorem app_ok {C : Cfg} {W i : Nat} {a : X} {e : Env} {o : O} {os : List O} (hi : getE e i = some (.l os)) (h : evalE C a e = .ok o e) (hl : os.length < 2 ^ 20) : evalS C W (.app i a) e = .nx (e.set i (some (.l (os ++ [o])))) := by
  rw [evalS, hi]
  simp only [h, Out.ofR_ok, hi, lenOk_of hl, if_true]
theorem for_ok {C : Cfg} {W : Nat} {t : Tg} {it : It} {b : Ss} {e e1 e2 : Env} {ds : List D} (h : evalIt C it e = .ok ds e1) (h2 : evalFor t (fun e => evalSs C W b e) ds e1 = .nx e2) : evalS C W (.for t it b) e = .nx e2 := by
  rw [evalS, h]
  exact h2
theorem nx0 {C : Cfg} {W : Nat} {e : Env} : evalSs C W .nil e = .nx e := by rw [evalSs]
theorem retv {C : Cfg} {W i : Nat} {e : Env} {o : O} (h : getE e i = some o) : evalS C W (.ret (.v i)) e = .rt o (e.set i none) := by rw [evalS, h]
/-! ### comprehensions of which nothing is left -/
theorem comp_nil {α : Type} {C : Cfg} {elt cd : X} {t : Tg} {it : It} {own : List Nat} {e : Env} (xs : List α) (q : α → D) (h1 : evalIt C it e = .ok (xs.map q) e)
    (h2 : ∀ x ∈ xs, ∃ e1, tgE t (.z (q x)) (wipeE e own) = some e1 ∧ evalE C cd e1 = .ok (zb false) e1 ∧ wipeE e1 own = wipeE e own)
    (hl : xs.length ≤ 2 ^ 20) (hp : (pureX elt && pureIt it && pureX cd) = true) : evalE C (.comp elt t it (.some cd) own) e = .ok (.l []) e := by
  have q := ev_comp (elt := elt) (cd := .some cd) xs q (fun _ => false) (fun _ => zi 0) h1 (fun x hx => by
    obtain ⟨e1, a, b, c⟩ := h2 x hx
    exact ⟨e1, a, by rw [evalCond]; exact b, (fun z => nomatch z), c⟩) hl (by simpa [pureXo] using hp) (fun _ _ z => nomatch z)
  rw [show xs.filter (fun _ => false) = [] from by simp, List.map_nil] at q
  exact q
theorem eqn_t {C : Cfg} {x : X} {e : Env} (h : evalE C x e = .ok (.l []) e) : evalE C (.cmp .eq x (.lst .nil)) e = .ok (zb true) e := cmp_ok h ev_nil (eq_nil (ds := []) (fun _ z => nomatch z))
theorem nen_f {C : Cfg} {x : X} {e : Env} (h : evalE C x e = .ok (.l []) e) : evalE C (.cmp .ne x (.lst .nil)) e = .ok (zb false) e := cmp_ok h ev_nil (ne_nil (ds := []) (fun _ z => nomatch z))
theorem isi_ok {C : Cfg} {a : X} {t : Ty} {e : Env} {o : O} {b : Bool} (h : evalE C a e = .ok o e) (h2 : isiV t o.toD = some b) : evalE C (.isi t a) e = .ok (zb b) e := by
  rw [evalE, vw h]
  simp only [R.bind_ok, h2, Option.map_some, ofOpt_some]
end RF
/-! K34: the terms of the law and their fit (printed by genlaw.py). -/
namespace K34
open L2 PySem RF PySem.Spec PyProof.Rows
abbrev f_is_whole : Nat := 0
abbrev f_is_count : Nat := 1
abbrev f_is_below : Nat := 2
abbrev f_is_number : Nat := 3
abbrev f_are_numbers_of : Nat := 4
abbrev f_are_weights_of : Nat := 5
abbrev f_check_row : Nat := 6
abbrev f_check_numbers : Nat := 7
abbrev f_check_weights : Nat := 8
abbrev f_is_pair : Nat := 9
abbrev f_reach_of : Nat := 10
abbrev f_is_order_of : Nat := 11
abbrev f_check_order : Nat := 12
abbrev f_all_pairs_of : Nat := 13
abbrev f_check_weighed : Nat := 14
abbrev f_check_ordered : Nat := 15
abbrev f_falls_of : Nat := 16
abbrev f_keeps : Nat := 17
abbrev f_weight_of : Nat := 18
abbrev f_heaviest_of : Nat := 19
abbrev f_fewest_changed : Nat := 20
abbrev f_heights_of_row : Nat := 21
abbrev f_row_kept : Nat := 22
abbrev f_row_heights : Nat := 23
abbrev f_row_changed : Nat := 24
abbrev f_fall_count : Nat := 25
abbrev f__law_hash : Nat := 26
abbrev f__law_random : Nat := 27
abbrev f__law_cell : Nat := 28
abbrev f__law_generator : Nat := 29
abbrev f__law_pick : Nat := 30
abbrev f__law_same : Nat := 31
abbrev f__law_is_whole : Nat := 32
abbrev f__law_is_below : Nat := 33
abbrev f__law_copied : Nat := 34
abbrev f__law_call : Nat := 35
abbrev f__law_mark : Nat := 36
abbrev f__law_raised : Nat := 37
abbrev f__law_refused : Nat := 38
abbrev f__law_all_refused : Nat := 39
abbrev f__law_is_lot : Nat := 40
abbrev f__law_drawn_numbers : Nat := 41
abbrev f__law_drawn_weights : Nat := 42
abbrev f__law_wrong_numbers : Nat := 43
abbrev f__law_wrong_weights : Nat := 44
abbrev f__law_is_kind : Nat := 45
abbrev f__law_heights : Nat := 46
abbrev f__law_case_right : Nat := 47
abbrev f_law : Nat := 48
abbrev c_InvalidNumbers : Nat := 0
abbrev c_InvalidWeights : Nat := 1
abbrev c_InvalidOrder : Nat := 2
abbrev k_LONGEST : Nat := 0
abbrev k_MOST_THINGS : Nat := 1
abbrev k_MOST_NUMBER : Nat := 2
abbrev k_MOST_WEIGHT : Nat := 3
/-- is_whole(value) -/
def d_is_whole : Fd := ⟨[false], 1,
    (.cons (.ret (.and (.cons (.isi .int (.v 0)) (.cons (.not (.isi .bool (.v 0))) .nil))))
    .nil)⟩
/-- is_count(value) -/
def d_is_count : Fd := ⟨[false], 1,
    (.cons (.ret (.and (.cons (.call true f_is_whole (.cons (.v 0) .nil)) (.cons (.cmp .ge (.v 0) (.n 0)) .nil))))
    .nil)⟩
/-- is_below(value, bound) -/
def d_is_below : Fd := ⟨[false, false], 2,
    (.cons (.ret (.and (.cons (.call true f_is_count (.cons (.v 0) .nil)) (.cons (.cmp .lt (.v 0) (.v 1)) .nil))))
    .nil)⟩
/-- is_number(value) -/
def d_is_number : Fd := ⟨[false], 1,
    (.cons (.ret (.and (.cons (.call true f_is_whole (.cons (.v 0) .nil)) (.cons (.cmp2 .le .le (.neg (.gk k_MOST_NUMBER 1000000000)) (.v 0) (.gk k_MOST_NUMBER 1000000000)) .nil))))
    .nil)⟩
/-- are_numbers_of(value, most, number) -/
def d_are_numbers_of : Fd := ⟨[false, false], 3,
    (.cons (.ite (.or (.cons (.not (.isi .list (.v 0))) (.cons (.not (.cmp2 .le .le (.n 1) (.blt .len (.cons (.v 0) .nil)) (.v 1))) .nil)))
    (.cons (.ret (.tt false))
    .nil)
    .nil)
    (.cons (.ret (.cmp .eq (.comp (.v 2) (.nm 2) (.seq (.v 0)) (.some (.not (.call true f_is_number (.cons (.v 2) .nil)))) [2]) (.lst .nil)))
    .nil))⟩
/-- are_weights_of(size, value, weight) -/
def d_are_weights_of : Fd := ⟨[false, false], 3,
    (.cons (.ite (.or (.cons (.not (.isi .list (.v 1))) (.cons (.cmp .ne (.blt .len (.cons (.v 1) .nil)) (.v 0)) .nil)))
    (.cons (.ret (.tt false))
    .nil)
    .nil)
    (.cons (.ret (.cmp .eq (.comp (.v 2) (.nm 2) (.seq (.v 1)) (.some (.or (.cons (.not (.call true f_is_count (.cons (.v 2) .nil))) (.cons (.not (.cmp2 .le .le (.n 1) (.v 2) (.gk k_MOST_WEIGHT 1000))) .nil)))) [2]) (.lst .nil)))
    .nil))⟩
/-- check_row(numbers) -/
def d_check_row : Fd := ⟨[false], 1,
    (.cons (.ite (.not (.call true f_are_numbers_of (.cons (.v 0) (.cons (.gk k_LONGEST 60) .nil))))
    (.cons (.raise c_InvalidNumbers (.v 0))
    .nil)
    .nil)
    .nil)⟩
/-- check_numbers(numbers) -/
def d_check_numbers : Fd := ⟨[false], 1,
    (.cons (.ite (.not (.call true f_are_numbers_of (.cons (.v 0) (.cons (.gk k_MOST_THINGS 12) .nil))))
    (.cons (.raise c_InvalidNumbers (.v 0))
    .nil)
    .nil)
    .nil)⟩
/-- check_weights(size, weights) -/
def d_check_weights : Fd := ⟨[false, false], 2,
    (.cons (.ite (.not (.call true f_are_weights_of (.cons (.v 0) (.cons (.v 1) .nil))))
    (.cons (.raise c_InvalidWeights (.v 1))
    .nil)
    .nil)
    .nil)⟩
/-- is_pair(size, value) -/
def d_is_pair : Fd := ⟨[false, false], 2,
    (.cons (.ite (.or (.cons (.not (.isi .tuple (.v 1))) (.cons (.cmp .ne (.blt .len (.cons (.v 1) .nil)) (.n 2)) .nil)))
    (.cons (.ret (.tt false))
    .nil)
    .nil)
    (.cons (.ret (.and (.cons (.call true f_is_below (.cons (.ix (.v 1) (.n 0)) (.cons (.v 0) .nil))) (.cons (.call true f_is_below (.cons (.ix (.v 1) (.n 1)) (.cons (.v 0) .nil))) (.cons (.cmp .ne (.ix (.v 1) (.n 0)) (.ix (.v 1) (.n 1))) .nil)))))
    .nil))⟩
/-- reach_of(size, order, before, other, thing, middle) -/
def d_reach_of : Fd := ⟨[false, false], 6,
    (.cons (.set 2 (.comp (.comp (.cmp .mem (.tup (.cons (.v 4) (.cons (.v 3) .nil))) (.v 1)) (.nm 3) (.rng1 (.v 0)) .none [3]) (.nm 4) (.rng1 (.v 0)) .none [4]))
    (.cons (.for (.nm 5) (.rng1 (.v 0))
    (.cons (.for (.nm 4) (.rng1 (.v 0))
    (.cons (.ite (.ix2 2 (.v 4) (.v 5))
    (.cons (.sto 2 (.v 4) (.comp (.or (.cons (.ix2 2 (.v 4) (.v 3)) (.cons (.ix2 2 (.v 5) (.v 3)) .nil))) (.nm 3) (.rng1 (.v 0)) .none [3]))
    .nil)
    .nil)
    .nil))
    .nil))
    (.cons (.ret (.v 2))
    .nil)))⟩
/-- is_order_of(size, value, pair, at, before, thing) -/
def d_is_order_of : Fd := ⟨[false, false], 6,
    (.cons (.ite (.or (.cons (.not (.isi .list (.v 1))) (.cons (.cmp .ne (.comp (.v 2) (.nm 2) (.seq (.v 1)) (.some (.not (.call true f_is_pair (.cons (.v 0) (.cons (.v 2) .nil))))) [2]) (.lst .nil)) .nil)))
    (.cons (.ret (.tt false))
    .nil)
    .nil)
    (.cons (.ite (.cmp .ne (.comp (.v 3) (.nm 3) (.rng2 (.n 1) (.blt .len (.cons (.v 1) .nil))) (.some (.cmp .ge (.ix (.v 1) (.bin .sub (.v 3) (.n 1))) (.ix (.v 1) (.v 3)))) [3]) (.lst .nil))
    (.cons (.ret (.tt false))
    .nil)
    .nil)
    (.cons (.set 4 (.call true f_reach_of (.cons (.v 0) (.cons (.v 1) .nil))))
    (.cons (.ret (.cmp .eq (.comp (.v 5) (.nm 5) (.rng1 (.v 0)) (.some (.ix2 4 (.v 5) (.v 5))) [5]) (.lst .nil)))
    .nil))))⟩
/-- check_order(size, order) -/
def d_check_order : Fd := ⟨[false, false], 2,
    (.cons (.ite (.not (.call true f_is_order_of (.cons (.v 0) (.cons (.v 1) .nil))))
    (.cons (.raise c_InvalidOrder (.v 1))
    .nil)
    .nil)
    .nil)⟩
/-- all_pairs_of(size, order, before, found, thing, other) -/
def d_all_pairs_of : Fd := ⟨[false, false], 6,
    (.cons (.set 2 (.call true f_reach_of (.cons (.v 0) (.cons (.v 1) .nil))))
    (.cons (.set 3 (.lst .nil))
    (.cons (.for (.nm 4) (.rng1 (.v 0))
    (.cons (.set 3 (.bin .add (.v 3) (.comp (.tup (.cons (.v 4) (.cons (.v 5) .nil))) (.nm 5) (.rng1 (.v 0)) (.some (.ix2 2 (.v 4) (.v 5))) [5])))
    .nil))
    (.cons (.ret (.v 3))
    .nil))))⟩
/-- check_weighed(numbers, weights) -/
def d_check_weighed : Fd := ⟨[false, false], 2,
    (.cons (.expr (.call true f_check_row (.cons (.v 0) .nil)))
    (.cons (.expr (.call true f_check_weights (.cons (.blt .len (.cons (.v 0) .nil)) (.cons (.v 1) .nil))))
    .nil))⟩
/-- check_ordered(numbers, weights, order) -/
def d_check_ordered : Fd := ⟨[false, false, false], 3,
    (.cons (.expr (.call true f_check_numbers (.cons (.v 0) .nil)))
    (.cons (.expr (.call true f_check_weights (.cons (.blt .len (.cons (.v 0) .nil)) (.cons (.v 1) .nil))))
    (.cons (.expr (.call true f_check_order (.cons (.blt .len (.cons (.v 0) .nil)) (.cons (.v 2) .nil))))
    .nil)))⟩
/-- falls_of(numbers, order, pair) -/
def d_falls_of : Fd := ⟨[false, false], 3,
    (.cons (.ret (.comp (.v 2) (.nm 2) (.seq (.call true f_all_pairs_of (.cons (.blt .len (.cons (.v 0) .nil)) (.cons (.v 1) .nil)))) (.some (.cmp .gt (.ix (.v 0) (.ix (.v 2) (.n 0))) (.ix (.v 0) (.ix (.v 2) (.n 1))))) [2]))
    .nil)⟩
/-- keeps(falling, lot, pair) -/
def d_keeps : Fd := ⟨[false, false], 3,
    (.cons (.ret (.cmp .eq (.comp (.v 2) (.nm 2) (.seq (.v 0)) (.some (.and (.cons (.cmp .mem (.ix (.v 2) (.n 0)) (.v 1)) (.cons (.cmp .mem (.ix (.v 2) (.n 1)) (.v 1)) .nil)))) [2]) (.lst .nil)))
    .nil)⟩
/-- weight_of(weights, lot, thing) -/
def d_weight_of : Fd := ⟨[false, false], 3,
    (.cons (.ret (.blt .sum (.cons (.comp (.ix (.v 0) (.v 2)) (.nm 2) (.seq (.v 1)) .none [2]) .nil)))
    .nil)⟩
/-- heaviest_of(numbers, weights, order, falling, lots, thing, lot, told) -/
def d_heaviest_of : Fd := ⟨[false, false, false], 8,
    (.cons (.set 3 (.call true f_falls_of (.cons (.v 0) (.cons (.v 2) .nil))))
    (.cons (.set 4 (.lst (.cons (.lst .nil) .nil)))
    (.cons (.for (.nm 5) (.rng1 (.blt .len (.cons (.v 0) .nil)))
    (.cons (.set 4 (.bin .add (.v 4) (.comp (.bin .add (.v 6) (.lst (.cons (.v 5) .nil))) (.nm 6) (.seq (.v 4)) (.some (.call true f_keeps (.cons (.v 3) (.cons (.bin .add (.v 6) (.lst (.cons (.v 5) .nil))) .nil)))) [6])))
    .nil))
    (.cons (.set 7 (.comp (.call true f_weight_of (.cons (.v 1) (.cons (.v 6) .nil))) (.nm 6) (.seq (.v 4)) .none [6]))
    (.cons (.ret (.ix (.v 4) (.idx 7 (.blt .max1 (.cons (.v 7) .nil)))))
    .nil)))))⟩
/-- fewest_changed(numbers, weights, order) -/
def d_fewest_changed : Fd := ⟨[false, false, false], 3,
    (.cons (.expr (.call true f_check_ordered (.cons (.v 0) (.cons (.v 1) (.cons (.v 2) .nil)))))
    (.cons (.ret (.bin .sub (.blt .sum (.cons (.v 1) .nil)) (.call true f_weight_of (.cons (.v 1) (.cons (.call true f_heaviest_of (.cons (.v 0) (.cons (.v 1) (.cons (.v 2) .nil)))) .nil)))))
    .nil))⟩
/-- heights_of_row(numbers, weights, found, at, number, ahead, place) -/
def d_heights_of_row : Fd := ⟨[false, false], 7,
    (.cons (.set 2 (.lst .nil))
    (.cons (.for (.tp [3, 4]) (.enum (.v 0))
    (.cons (.set 5 (.comp (.ix (.v 2) (.v 6)) (.nm 6) (.rng1 (.v 3)) (.some (.cmp .le (.ix (.v 0) (.v 6)) (.v 4))) [6]))
    (.cons (.app 2 (.bin .add (.ix (.v 1) (.v 3)) (.blt .max1 (.cons (.bin .add (.v 5) (.lst (.cons (.n 0) .nil))) .nil))))
    .nil)))
    (.cons (.ret (.v 2))
    .nil)))⟩
/-- row_kept(numbers, weights, told, place, found, rest, able, at) -/
def d_row_kept : Fd := ⟨[false, false], 8,
    (.cons (.expr (.call true f_check_weighed (.cons (.v 0) (.cons (.v 1) .nil))))
    (.cons (.set 2 (.call true f_heights_of_row (.cons (.v 0) (.cons (.v 1) .nil))))
    (.cons (.set 3 (.idx 2 (.blt .max1 (.cons (.v 2) .nil))))
    (.cons (.set 4 (.lst (.cons (.v 3) .nil)))
    (.cons (.whl (.cmp .gt (.ix (.v 2) (.v 3)) (.ix (.v 1) (.v 3)))
    (.cons (.set 5 (.bin .sub (.ix (.v 2) (.v 3)) (.ix (.v 1) (.v 3))))
    (.cons (.set 6 (.comp (.v 7) (.nm 7) (.rng1 (.v 3)) (.some (.and (.cons (.cmp .eq (.ix (.v 2) (.v 7)) (.v 5)) (.cons (.cmp .le (.ix (.v 0) (.v 7)) (.ix (.v 0) (.v 3))) .nil)))) [7]))
    (.cons (.set 3 (.ix (.v 6) (.n 0)))
    (.cons (.app 4 (.v 3))
    .nil)))))
    (.cons (.ret (.rev (.v 4)))
    .nil))))))⟩
/-- row_heights(numbers, weights) -/
def d_row_heights : Fd := ⟨[false, false], 2,
    (.cons (.expr (.call true f_check_weighed (.cons (.v 0) (.cons (.v 1) .nil))))
    (.cons (.ret (.call true f_heights_of_row (.cons (.v 0) (.cons (.v 1) .nil))))
    .nil))⟩
/-- row_changed(numbers, weights) -/
def d_row_changed : Fd := ⟨[false, false], 2,
    (.cons (.expr (.call true f_check_weighed (.cons (.v 0) (.cons (.v 1) .nil))))
    (.cons (.ret (.bin .sub (.blt .sum (.cons (.v 1) .nil)) (.blt .max1 (.cons (.call true f_heights_of_row (.cons (.v 0) (.cons (.v 1) .nil))) .nil))))
    .nil))⟩
/-- fall_count(numbers, found, at, number, other) -/
def d_fall_count : Fd := ⟨[false], 5,
    (.cons (.expr (.call true f_check_row (.cons (.v 0) .nil)))
    (.cons (.set 1 (.n 0))
    (.cons (.for (.tp [2, 3]) (.enum (.v 0))
    (.cons (.set 1 (.bin .add (.v 1) (.blt .len (.cons (.comp (.v 4) (.nm 4) (.seq (.sl (.v 0) (.some (.bin .add (.v 2) (.n 1))) .none)) (.some (.cmp .lt (.v 4) (.v 3))) [4]) .nil))))
    .nil))
    (.cons (.ret (.v 1))
    .nil))))⟩
/-- _law_hash(seed, index, mixed) -/
def d__law_hash : Fd := ⟨[false, false], 3,
    (.cons (.set 2 (.bin .mod (.blt .int (.cons (.bin .add (.bin .add (.bin .add (.bin .mul (.v 0) (.n 1140671)) (.bin .mul (.bin .mul (.n 27644437) (.v 1)) (.v 1))) (.bin .mul (.n 131) (.v 1))) (.n 19)) .nil)) (.n 2147483629)))
    (.cons (.set 2 (.bin .mod (.blt .int (.cons (.bin .add (.bin .add (.bin .mul (.v 2) (.v 2)) (.bin .mul (.n 62089) (.v 1))) (.n 32416187)) .nil)) (.n 2147483587)))
    (.cons (.ret (.bin .mod (.blt .int (.cons (.bin .mul (.v 2) (.n 48271)) .nil)) (.n 2147483647)))
    .nil)))⟩
/-- _law_random(generator, bound, drawn, turn) -/
def d__law_random : Fd := ⟨[true, false], 4,
    (.cons (.ite (.cmp .gt (.ix (.v 0) (.n 0)) (.n 0))
    (.cons (.set 2 (.bin .mod (.blt .int (.cons (.ix (.v 0) (.n 0)) .nil)) (.v 1)))
    (.cons (.sto 0 (.n 0) (.bin .fdiv (.ix (.v 0) (.n 0)) (.v 1)))
    (.cons (.ret (.v 2))
    .nil)))
    .nil)
    (.cons (.set 2 (.n 0))
    (.cons (.for (.nm 3) (.rng1 (.bin .add (.n 1) (.bin .fdiv (.bits (.v 1)) (.n 30))))
    (.cons (.sto 0 (.n 2) (.bin .add (.ix (.v 0) (.n 2)) (.n 1)))
    (.cons (.set 2 (.bin .add (.bin .mul (.v 2) (.n 2147483587)) (.call true f__law_hash (.cons (.ix (.v 0) (.n 1)) (.cons (.ix (.v 0) (.n 2)) .nil)))))
    .nil)))
    (.cons (.ret (.bin .mod (.blt .int (.cons (.v 2) .nil)) (.v 1)))
    .nil))))⟩
/-- _law_cell(script, index) -/
def d__law_cell : Fd := ⟨[false, false], 2,
    (.cons (.ite (.cmp .lt (.v 1) (.blt .len (.cons (.v 0) .nil)))
    (.cons (.ret (.ix (.v 0) (.v 1)))
    .nil)
    .nil)
    (.cons (.ret (.bin .mod (.blt .sum (.cons (.sl (.v 0) .none (.some (.n 1))) .nil)) (.n 1000003)))
    .nil))⟩
/-- _law_generator(script, index, seed) -/
def d__law_generator : Fd := ⟨[false, false], 3,
    (.cons (.set 2 (.call true f__law_cell (.cons (.v 0) (.cons (.v 1) .nil))))
    (.cons (.ret (.lst (.cons (.bin .mod (.blt .int (.cons (.blt .max2 (.cons (.bin .sub (.v 2) (.bin .pow (.n 10) (.n 18))) (.cons (.n 0) .nil))) .nil)) (.bin .pow (.bin .pow (.n 10) (.n 60)) (.n 10))) (.cons (.bin .mod (.blt .int (.cons (.v 2) .nil)) (.n 2147483647)) (.cons (.bin .mul (.n 1000) (.v 1)) .nil)))))
    .nil))⟩
/-- _law_pick(generator, told_ones) -/
def d__law_pick : Fd := ⟨[true, false], 2,
    (.cons (.ret (.ix (.v 1) (.call false f__law_random (.cons (.v 0) (.cons (.blt .len (.cons (.v 1) .nil)) .nil)))))
    .nil)⟩
/-- _law_same(told, due, at) -/
def d__law_same : Fd := ⟨[false, false], 3,
    (.cons (.ite (.or (.cons (.cmp .is (.v 1) .non) (.cons (.cmp .is (.v 1) (.tt true)) (.cons (.cmp .is (.v 1) (.tt false)) .nil))))
    (.cons (.ret (.ite (.cmp .is (.v 1) .non) (.cmp .is (.v 0) .non) (.ite (.cmp .is (.v 1) (.tt true)) (.cmp .is (.v 0) (.tt true)) (.cmp .is (.v 0) (.tt false)))))
    .nil)
    .nil)
    (.cons (.ite (.isi .lt (.v 1))
    (.cons (.ite (.or (.cons (.and (.cons (.not (.isi .list (.v 0))) (.cons (.isi .list (.v 1)) .nil))) (.cons (.and (.cons (.not (.isi .tuple (.v 0))) (.cons (.isi .tuple (.v 1)) .nil))) .nil)))
    (.cons (.ret (.tt false))
    .nil)
    .nil)
    (.cons (.ret (.and (.cons (.cmp .eq (.blt .len (.cons (.v 0) .nil)) (.blt .len (.cons (.v 1) .nil))) (.cons (.cmp .eq (.comp (.v 2) (.nm 2) (.rng1 (.blt .len (.cons (.v 1) .nil))) (.some (.not (.call true f__law_same (.cons (.ix (.v 0) (.v 2)) (.cons (.ix (.v 1) (.v 2)) .nil))))) [2]) (.lst .nil)) .nil))))
    .nil))
    .nil)
    (.cons (.ite (.isi .int (.v 1))
    (.cons (.ret (.and (.cons (.isi .int (.v 0)) (.cons (.not (.isi .bool (.v 0))) (.cons (.cmp .eq (.v 0) (.v 1)) .nil)))))
    .nil)
    .nil)
    (.cons (.ret (.and (.cons (.isi .str (.v 0)) (.cons (.cmp .eq (.v 0) (.v 1)) .nil))))
    .nil))))⟩
/-- _law_is_whole(value) -/
def d__law_is_whole : Fd := ⟨[false], 1,
    (.cons (.ret (.and (.cons (.isi .int (.v 0)) (.cons (.not (.isi .bool (.v 0))) .nil))))
    .nil)⟩
/-- _law_is_below(value, bound) -/
def d__law_is_below : Fd := ⟨[false, false], 2,
    (.cons (.ret (.and (.cons (.call true f__law_is_whole (.cons (.v 0) .nil)) (.cons (.cmp2 .le .lt (.n 0) (.v 0) (.v 1)) .nil))))
    .nil)⟩
/-- _law_copied(thing, part) -/
def d__law_copied : Fd := ⟨[false], 2,
    (.cons (.ite (.isi .list (.v 0))
    (.cons (.ret (.comp (.call true f__law_copied (.cons (.v 1) .nil)) (.nm 1) (.seq (.v 0)) .none [1]))
    .nil)
    .nil)
    (.cons (.ret (.ite (.isi .tuple (.v 0)) (.blt .tuple (.cons (.comp (.call true f__law_copied (.cons (.v 1) .nil)) (.nm 1) (.seq (.v 0)) .none [1]) .nil)) (.v 0)))
    .nil))⟩
/-- _law_call(deed, args) -/
def d__law_call : Fd := ⟨[false, false], 2,
    (.cons (.ite (.cmp .eq (.blt .len (.cons (.v 1) .nil)) (.n 1))
    (.cons (.ret (.callv 0 (.cons (.ix (.v 1) (.n 0)) .nil)))
    .nil)
    .nil)
    (.cons (.ite (.cmp .eq (.blt .len (.cons (.v 1) .nil)) (.n 2))
    (.cons (.ret (.callv 0 (.cons (.ix (.v 1) (.n 0)) (.cons (.ix (.v 1) (.n 1)) .nil))))
    .nil)
    .nil)
    (.cons (.ite (.cmp .eq (.blt .len (.cons (.v 1) .nil)) (.n 3))
    (.cons (.ret (.callv 0 (.cons (.ix (.v 1) (.n 0)) (.cons (.ix (.v 1) (.n 1)) (.cons (.ix (.v 1) (.n 2)) .nil)))))
    .nil)
    .nil)
    (.cons (.ite (.cmp .eq (.blt .len (.cons (.v 1) .nil)) (.n 4))
    (.cons (.ret (.callv 0 (.cons (.ix (.v 1) (.n 0)) (.cons (.ix (.v 1) (.n 1)) (.cons (.ix (.v 1) (.n 2)) (.cons (.ix (.v 1) (.n 3)) .nil))))))
    .nil)
    .nil)
    (.cons (.ite (.cmp .eq (.blt .len (.cons (.v 1) .nil)) (.n 5))
    (.cons (.ret (.callv 0 (.cons (.ix (.v 1) (.n 0)) (.cons (.ix (.v 1) (.n 1)) (.cons (.ix (.v 1) (.n 2)) (.cons (.ix (.v 1) (.n 3)) (.cons (.ix (.v 1) (.n 4)) .nil)))))))
    .nil)
    .nil)
    (.cons (.ret (.callv 0 (.cons (.ix (.v 1) (.n 0)) (.cons (.ix (.v 1) (.n 1)) (.cons (.ix (.v 1) (.n 2)) (.cons (.ix (.v 1) (.n 3)) (.cons (.ix (.v 1) (.n 4)) (.cons (.ix (.v 1) (.n 5)) .nil))))))))
    .nil))))))⟩
/-- _law_mark(deed, args, mark, e) -/
def d__law_mark : Fd := ⟨[false, false], 4,
    (.cons (.set 2 .non)
    (.cons (.tryE 3 2 (.call true f__law_call (.cons (.v 0) (.cons (.v 1) .nil))))
    (.cons (.ret (.v 2))
    .nil)))⟩
/-- _law_raised(deed, args, kind, value, mark) -/
def d__law_raised : Fd := ⟨[false, false, false, false], 5,
    (.cons (.set 4 (.call true f__law_mark (.cons (.v 0) (.cons (.v 1) .nil))))
    (.cons (.ret (.and (.cons (.cmp .isn (.v 4) .non) (.cons (.call true f__law_is_kind (.cons (.v 4) (.cons (.v 2) .nil))) (.cons (.call true f__law_same (.cons (.attr 4) (.cons (.v 3) .nil))) .nil)))))
    .nil))⟩
/-- _law_refused(deed, args, at, kind, wrong, blank, thing) -/
def d__law_refused : Fd := ⟨[false, false, false, false, false], 7,
    (.cons (.set 5 (.bin .add (.bin .add (.sl (.v 1) .none (.some (.v 2))) (.lst (.cons (.v 4) .nil))) (.comp .non (.nm 6) (.seq (.sl (.v 1) (.some (.bin .add (.v 2) (.n 1))) .none)) .none [6])))
    (.cons (.ite (.not (.call true f__law_raised (.cons (.v 0) (.cons (.v 5) (.cons (.v 3) (.cons (.v 4) .nil))))))
    (.cons (.ret (.tt false))
    .nil)
    .nil)
    (.cons (.ret (.call true f__law_raised (.cons (.v 0) (.cons (.bin .add (.bin .add (.sl (.v 1) .none (.some (.v 2))) (.lst (.cons (.v 4) .nil))) (.sl (.v 1) (.some (.bin .add (.v 2) (.n 1))) .none)) (.cons (.v 3) (.cons (.v 4) .nil))))))
    .nil)))⟩
/-- _law_all_refused(deeds, at, kind, wrongs, deed, args, wrong) -/
def d__law_all_refused : Fd := ⟨[false, false, false, false], 7,
    (.cons (.for (.tp [4, 5]) (.seq (.v 0))
    (.cons (.ite (.cmp .ne (.comp (.v 6) (.nm 6) (.seq (.v 3)) (.some (.not (.call true f__law_refused (.cons (.v 4) (.cons (.v 5) (.cons (.v 1) (.cons (.v 2) (.cons (.v 6) .nil)))))))) [6]) (.lst .nil))
    (.cons (.ret (.tt false))
    .nil)
    .nil)
    .nil))
    (.cons (.ret (.tt true))
    .nil))⟩
/-- _law_is_lot(size, value, one, at) -/
def d__law_is_lot : Fd := ⟨[false, false], 4,
    (.cons (.ite (.or (.cons (.not (.isi .list (.v 1))) (.cons (.cmp .ne (.comp (.v 2) (.nm 2) (.seq (.v 1)) (.some (.not (.call true f__law_is_below (.cons (.v 2) (.cons (.v 0) .nil))))) [2]) (.lst .nil)) .nil)))
    (.cons (.ret (.tt false))
    .nil)
    .nil)
    (.cons (.ret (.cmp .eq (.comp (.v 3) (.nm 3) (.rng2 (.n 1) (.blt .len (.cons (.v 1) .nil))) (.some (.cmp .ge (.ix (.v 1) (.bin .sub (.v 3) (.n 1))) (.ix (.v 1) (.v 3)))) [3]) (.lst .nil)))
    .nil))⟩
/-- _law_drawn_numbers(generator, size, most, at) -/
def d__law_drawn_numbers : Fd := ⟨[true, false], 4,
    (.cons (.set 2 (.call false f__law_pick (.cons (.v 0) (.cons (.lst (.cons (.n 2) (.cons (.n 5) (.cons (.n 20) (.cons (.n 1000) (.cons (.bin .pow (.n 10) (.n 9)) .nil)))))) .nil))))
    (.cons (.ret (.comp (.bin .sub (.call false f__law_random (.cons (.v 0) (.cons (.bin .add (.bin .mul (.n 2) (.v 2)) (.n 1)) .nil))) (.v 2)) (.nm 3) (.rng1 (.v 1)) .none [3]))
    .nil))⟩
/-- _law_drawn_weights(generator, size, most, at) -/
def d__law_drawn_weights : Fd := ⟨[true, false], 4,
    (.cons (.set 2 (.call false f__law_pick (.cons (.v 0) (.cons (.lst (.cons (.n 1) (.cons (.n 3) (.cons (.n 1000) .nil)))) .nil))))
    (.cons (.ret (.comp (.bin .add (.n 1) (.call false f__law_random (.cons (.v 0) (.cons (.v 2) .nil)))) (.nm 3) (.rng1 (.v 1)) .none [3]))
    .nil))⟩
/-- _law_wrong_numbers(numbers, most, found) -/
def d__law_wrong_numbers : Fd := ⟨[false, false], 3,
    (.cons (.set 2 (.lst (.cons .non (.cons (.n 0) (.cons (.tt true) (.cons (.s ⟨#[110, 117, 109, 98, 101, 114, 115]⟩) (.cons (.lst .nil) (.cons (.blt .tuple (.cons (.v 0) .nil)) (.cons (.bin .add (.lst (.cons .non .nil)) (.sl (.v 0) (.some (.n 1)) .none)) (.cons (.bin .add (.lst (.cons (.tt true) .nil)) (.sl (.v 0) (.some (.n 1)) .none)) (.cons (.bin .add (.lst (.cons (.s ⟨#[49]⟩) .nil)) (.sl (.v 0) (.some (.n 1)) .none)) (.cons (.bin .add (.lst (.cons (.bin .add (.bin .pow (.n 10) (.n 9)) (.n 1)) .nil)) (.sl (.v 0) (.some (.n 1)) .none)) .nil))))))))))))
    (.cons (.set 2 (.bin .add (.v 2) (.lst (.cons (.bin .add (.lst (.cons (.bin .sub (.bin .sub (.n 0) (.bin .pow (.n 10) (.n 9))) (.n 1)) .nil)) (.sl (.v 0) (.some (.n 1)) .none)) (.cons (.bin .add (.lst (.cons (.lst (.cons (.n 1) .nil)) .nil)) (.sl (.v 0) (.some (.n 1)) .none)) .nil)))))
    (.cons (.ret (.bin .add (.v 2) (.lst (.cons (.bin .mul (.lst (.cons (.n 0) .nil)) (.bin .add (.v 1) (.n 1))) (.cons (.bin .add (.lst (.cons (.tup (.cons (.n 1) (.cons (.n 2) .nil))) .nil)) (.sl (.v 0) (.some (.n 1)) .none)) .nil)))))
    .nil)))⟩
/-- _law_wrong_weights(weights, found) -/
def d__law_wrong_weights : Fd := ⟨[false], 2,
    (.cons (.set 1 (.lst (.cons .non (.cons (.n 0) (.cons (.s ⟨#[119, 101, 105, 103, 104, 116, 115]⟩) (.cons (.lst .nil) (.cons (.blt .tuple (.cons (.v 0) .nil)) (.cons (.sl (.v 0) .none (.some (.neg (.n 1)))) (.cons (.bin .add (.v 0) (.lst (.cons (.n 1) .nil))) (.cons (.bin .add (.lst (.cons .non .nil)) (.sl (.v 0) (.some (.n 1)) .none)) (.cons (.bin .add (.lst (.cons (.n 0) .nil)) (.sl (.v 0) (.some (.n 1)) .none)) (.cons (.bin .add (.lst (.cons (.n 1001) .nil)) (.sl (.v 0) (.some (.n 1)) .none)) (.cons (.bin .add (.lst (.cons (.tt true) .nil)) (.sl (.v 0) (.some (.n 1)) .none)) (.cons (.bin .add (.lst (.cons (.s ⟨#[49]⟩) .nil)) (.sl (.v 0) (.some (.n 1)) .none)) .nil))))))))))))))
    (.cons (.ret (.bin .add (.v 1) (.lst (.cons (.bin .add (.lst (.cons (.bin .sub (.n 0) (.n 1)) .nil)) (.sl (.v 0) (.some (.n 1)) .none)) .nil))))
    .nil))⟩
/-- _law_is_kind(mark, kind) -/
def d__law_is_kind : Fd := ⟨[false, false], 2,
    (.cons (.ite (.cmp .eq (.v 1) (.s ⟨#[73, 110, 118, 97, 108, 105, 100, 78, 117, 109, 98, 101, 114, 115]⟩))
    (.cons (.ret (.isc c_InvalidNumbers 0))
    .nil)
    .nil)
    (.cons (.ite (.cmp .eq (.v 1) (.s ⟨#[73, 110, 118, 97, 108, 105, 100, 87, 101, 105, 103, 104, 116, 115]⟩))
    (.cons (.ret (.isc c_InvalidWeights 0))
    .nil)
    .nil)
    (.cons (.ret (.tt false))
    .nil)))⟩
/-- _law_heights(numbers, weights, found, at, number, place) -/
def d__law_heights : Fd := ⟨[false, false], 6,
    (.cons (.set 2 (.lst .nil))
    (.cons (.for (.tp [3, 4]) (.enum (.v 0))
    (.cons (.app 2 (.bin .add (.ix (.v 1) (.v 3)) (.blt .max1 (.cons (.bin .add (.lst (.cons (.n 0) .nil)) (.comp (.ix (.v 2) (.v 5)) (.nm 5) (.rng1 (.v 3)) (.some (.cmp .le (.ix (.v 0) (.v 5)) (.v 4))) [5])) .nil))))
    .nil))
    (.cons (.ret (.v 2))
    .nil)))⟩
/-- _law_case_right(script, index, generator, size, numbers, weights, kept, due, told, places, at, lots, lot, crossed, over, changed_told, count, other, number, copies, deeds) -/
def d__law_case_right : Fd := ⟨[false, false], 21,
    (.cons (.set 2 (.call true f__law_generator (.cons (.v 0) (.cons (.v 1) .nil))))
    (.cons (.set 3 (.bin .add (.n 1) (.call false f__law_random (.cons (.v 2) (.cons (.ix (.lst (.cons (.n 60) (.cons (.n 10) (.cons (.n 4) .nil)))) (.v 1)) .nil)))))
    (.cons (.asg [4, 5] (.tup (.cons (.call false f__law_drawn_numbers (.cons (.v 2) (.cons (.v 3) .nil))) (.cons (.call false f__law_drawn_weights (.cons (.v 2) (.cons (.v 3) .nil))) .nil))))
    (.cons (.asg [6, 7] (.tup (.cons (.blt .repr (.cons (.lst (.cons (.v 4) (.cons (.v 5) .nil))) .nil)) (.cons (.call true f__law_heights (.cons (.v 4) (.cons (.v 5) .nil))) .nil))))
    (.cons (.asg [8, 9] (.tup (.cons (.call true f_row_heights (.cons (.v 4) (.cons (.v 5) .nil))) (.cons (.call true f_row_kept (.cons (.v 4) (.cons (.v 5) .nil))) .nil))))
    (.cons (.ite (.or (.cons (.not (.call true f__law_same (.cons (.lst (.cons (.v 8) (.cons (.callk f_row_heights .nil (.cons (.v 5) (.cons (.v 4) .nil)) [1, 0]) .nil))) (.cons (.lst (.cons (.v 7) (.cons (.v 7) .nil))) .nil)))) (.cons (.not (.call true f__law_is_lot (.cons (.v 3) (.cons (.v 9) .nil)))) .nil)))
    (.cons (.ret (.tt false))
    .nil)
    .nil)
    (.cons (.ite (.or (.cons (.cmp .ne (.comp (.v 10) (.nm 10) (.rng2 (.n 1) (.blt .len (.cons (.v 9) .nil))) (.some (.cmp .lt (.ix (.v 4) (.ix (.v 9) (.v 10))) (.ix (.v 4) (.ix (.v 9) (.bin .sub (.v 10) (.n 1)))))) [10]) (.lst .nil)) (.cons (.cmp .ne (.blt .sum (.cons (.comp (.ix (.v 5) (.v 10)) (.nm 10) (.seq (.v 9)) .none [10]) .nil)) (.blt .max1 (.cons (.v 7) .nil))) .nil)))
    (.cons (.ret (.tt false))
    .nil)
    .nil)
    (.cons (.ite (.cmp .lt (.v 3) (.n 11))
    (.cons (.set 11 (.lst (.cons (.lst .nil) .nil)))
    (.cons (.for (.nm 10) (.rng1 (.v 3))
    (.cons (.set 11 (.bin .add (.v 11) (.comp (.bin .add (.v 12) (.lst (.cons (.v 10) .nil))) (.nm 12) (.seq (.v 11)) (.some (.or (.cons (.cmp .eq (.v 12) (.lst .nil)) (.cons (.cmp .le (.ix (.v 4) (.ix (.v 12) (.neg (.n 1)))) (.ix (.v 4) (.v 10))) .nil)))) [12])))
    .nil))
    (.cons (.ite (.or (.cons (.cmp .ne (.blt .max1 (.cons (.comp (.blt .sum (.cons (.comp (.ix (.v 5) (.v 10)) (.nm 10) (.seq (.v 12)) .none [10]) .nil)) (.nm 12) (.seq (.v 11)) .none [12]) .nil)) (.blt .max1 (.cons (.v 7) .nil))) (.cons (.cmp .ne (.call true f_fewest_changed (.cons (.v 4) (.cons (.v 5) (.cons (.comp (.tup (.cons (.v 10) (.cons (.bin .add (.v 10) (.n 1)) .nil))) (.nm 10) (.rng1 (.bin .sub (.v 3) (.n 1))) .none [10]) .nil)))) (.bin .sub (.blt .sum (.cons (.v 5) .nil)) (.blt .max1 (.cons (.v 7) .nil)))) .nil)))
    (.cons (.ret (.tt false))
    .nil)
    .nil)
    .nil)))
    .nil)
    (.cons (.set 13 (.bin .add (.n 1) (.call false f__law_random (.cons (.v 2) (.cons (.blt .max1 (.cons (.v 7) .nil)) .nil)))))
    (.cons (.set 14 (.comp (.v 10) (.nm 10) (.rng1 (.v 3)) (.some (.cmp2 .lt .le (.bin .sub (.ix (.v 7) (.v 10)) (.ix (.v 5) (.v 10))) (.v 13) (.ix (.v 7) (.v 10)))) [10]))
    (.cons (.ite (.or (.cons (.cmp .ne (.comp (.v 10) (.nm 10) (.rng2 (.n 1) (.blt .len (.cons (.v 14) .nil))) (.some (.cmp .ge (.ix (.v 4) (.ix (.v 14) (.v 10))) (.ix (.v 4) (.ix (.v 14) (.bin .sub (.v 10) (.n 1)))))) [10]) (.lst .nil)) (.cons (.cmp .eq (.v 14) (.lst .nil)) .nil)))
    (.cons (.ret (.tt false))
    .nil)
    .nil)
    (.cons (.set 15 (.bin .sub (.blt .sum (.cons (.v 5) .nil)) (.blt .max1 (.cons (.v 7) .nil))))
    (.cons (.set 16 (.blt .sum (.cons (.comp (.blt .len (.cons (.comp (.v 17) (.nm 17) (.seq (.sl (.v 4) (.some (.bin .add (.v 10) (.n 1))) .none)) (.some (.cmp .lt (.v 17) (.v 18))) [17]) .nil)) (.tp [10, 18]) (.enum (.v 4)) .none [10, 18]) .nil)))
    (.cons (.ite (.not (.call true f__law_same (.cons (.lst (.cons (.call true f_row_changed (.cons (.v 4) (.cons (.v 5) .nil))) (.cons (.callk f_row_changed .nil (.cons (.v 5) (.cons (.v 4) .nil)) [1, 0]) (.cons (.call true f_fall_count (.cons (.v 4) .nil)) (.cons (.callk f_fall_count .nil (.cons (.v 4) .nil) [0]) .nil))))) (.cons (.lst (.cons (.v 15) (.cons (.v 15) (.cons (.v 16) (.cons (.v 16) .nil))))) .nil))))
    (.cons (.ret (.tt false))
    .nil)
    .nil)
    (.cons (.set 19 (.call true f__law_copied (.cons (.lst (.cons (.v 8) (.cons (.v 9) .nil))) .nil)))
    (.cons (.app 8 (.n 0))
    (.cons (.app 9 (.n 0))
    (.cons (.ite (.not (.call true f__law_same (.cons (.lst (.cons (.call true f_row_heights (.cons (.v 4) (.cons (.v 5) .nil))) (.cons (.callk f_row_kept .nil (.cons (.v 5) (.cons (.v 4) .nil)) [1, 0]) .nil))) (.cons (.v 19) .nil))))
    (.cons (.ret (.tt false))
    .nil)
    .nil)
    (.cons (.set 20 (.lst (.cons (.tup (.cons (.g f_row_heights) (.cons (.lst (.cons (.v 4) (.cons (.v 5) .nil))) .nil))) (.cons (.tup (.cons (.g f_row_kept) (.cons (.lst (.cons (.v 4) (.cons (.v 5) .nil))) .nil))) (.cons (.tup (.cons (.g f_row_changed) (.cons (.lst (.cons (.v 4) (.cons (.v 5) .nil))) .nil))) .nil)))))
    (.cons (.ite (.not (.call true f__law_all_refused (.cons (.bin .add (.v 20) (.lst (.cons (.tup (.cons (.g f_fall_count) (.cons (.lst (.cons (.v 4) .nil)) .nil))) .nil))) (.cons (.n 0) (.cons (.s ⟨#[73, 110, 118, 97, 108, 105, 100, 78, 117, 109, 98, 101, 114, 115]⟩) (.cons (.call true f__law_wrong_numbers (.cons (.v 4) (.cons (.n 60) .nil))) .nil))))))
    (.cons (.ret (.tt false))
    .nil)
    .nil)
    (.cons (.ret (.and (.cons (.call true f__law_all_refused (.cons (.v 20) (.cons (.n 1) (.cons (.s ⟨#[73, 110, 118, 97, 108, 105, 100, 87, 101, 105, 103, 104, 116, 115]⟩) (.cons (.call true f__law_wrong_weights (.cons (.v 5) .nil)) .nil))))) (.cons (.cmp .eq (.blt .repr (.cons (.lst (.cons (.v 4) (.cons (.v 5) .nil))) .nil)) (.v 6)) .nil))))
    .nil)))))))))))))))))))))⟩
/-- law(script, index) -/
def d_law : Fd := ⟨[false], 2,
    (.cons (.for (.nm 1) (.rng1 (.n 3))
    (.cons (.ite (.not (.call true f__law_case_right (.cons (.v 0) (.cons (.v 1) .nil))))
    (.cons (.ret (.tt false))
    .nil)
    .nil)
    .nil))
    (.cons (.ret (.tt true))
    .nil))⟩
def bodyL : List Stmt := PySem.Challenge.pw_risingfits_k34_whole_falls_of_rows.main.body
def e_is_whole : DD := ⟨"is_whole", 6, ["value"], ["value"], d_is_whole⟩
def e_is_count : DD := ⟨"is_count", 12, ["value"], ["value"], d_is_count⟩
def e_is_below : DD := ⟨"is_below", 13, ["value", "bound"], ["value", "bound"], d_is_below⟩
def e_is_number : DD := ⟨"is_number", 14, ["value"], ["value"], d_is_number⟩
def e_are_numbers_of : DD := ⟨"are_numbers_of", 15, ["value", "most"], ["value", "most", "number"], d_are_numbers_of⟩
def e_are_weights_of : DD := ⟨"are_weights_of", 16, ["size", "value"], ["size", "value", "weight"], d_are_weights_of⟩
def e_check_row : DD := ⟨"check_row", 17, ["numbers"], ["numbers"], d_check_row⟩
def e_check_numbers : DD := ⟨"check_numbers", 18, ["numbers"], ["numbers"], d_check_numbers⟩
def e_check_weights : DD := ⟨"check_weights", 19, ["size", "weights"], ["size", "weights"], d_check_weights⟩
def e_is_pair : DD := ⟨"is_pair", 21, ["size", "value"], ["size", "value"], d_is_pair⟩
def e_reach_of : DD := ⟨"reach_of", 22, ["size", "order"], ["size", "order", "before", "other", "thing", "middle"], d_reach_of⟩
def e_is_order_of : DD := ⟨"is_order_of", 23, ["size", "value"], ["size", "value", "pair", "at", "before", "thing"], d_is_order_of⟩
def e_check_order : DD := ⟨"check_order", 24, ["size", "order"], ["size", "order"], d_check_order⟩
def e_all_pairs_of : DD := ⟨"all_pairs_of", 25, ["size", "order"], ["size", "order", "before", "found", "thing", "other"], d_all_pairs_of⟩
def e_check_weighed : DD := ⟨"check_weighed", 27, ["numbers", "weights"], ["numbers", "weights"], d_check_weighed⟩
def e_check_ordered : DD := ⟨"check_ordered", 29, ["numbers", "weights", "order"], ["numbers", "weights", "order"], d_check_ordered⟩
def e_falls_of : DD := ⟨"falls_of", 31, ["numbers", "order"], ["numbers", "order", "pair"], d_falls_of⟩
def e_keeps : DD := ⟨"keeps", 32, ["falling", "lot"], ["falling", "lot", "pair"], d_keeps⟩
def e_weight_of : DD := ⟨"weight_of", 33, ["weights", "lot"], ["weights", "lot", "thing"], d_weight_of⟩
def e_heaviest_of : DD := ⟨"heaviest_of", 34, ["numbers", "weights", "order"], ["numbers", "weights", "order", "falling", "lots", "thing", "lot", "told"], d_heaviest_of⟩
def e_fewest_changed : DD := ⟨"fewest_changed", 35, ["numbers", "weights", "order"], ["numbers", "weights", "order"], d_fewest_changed⟩
def e_heights_of_row : DD := ⟨"heights_of_row", 36, ["numbers", "weights"], ["numbers", "weights", "found", "at", "number", "ahead", "place"], d_heights_of_row⟩
def e_row_kept : DD := ⟨"row_kept", 37, ["numbers", "weights"], ["numbers", "weights", "told", "place", "found", "rest", "able", "at"], d_row_kept⟩
def e_row_heights : DD := ⟨"row_heights", 38, ["numbers", "weights"], ["numbers", "weights"], d_row_heights⟩
def e_row_changed : DD := ⟨"row_changed", 39, ["numbers", "weights"], ["numbers", "weights"], d_row_changed⟩
def e_fall_count : DD := ⟨"fall_count", 40, ["numbers"], ["numbers", "found", "at", "number", "other"], d_fall_count⟩
def e__law_hash : DD := ⟨"_law_hash", 42, ["seed", "index"], ["seed", "index", "mixed"], d__law_hash⟩
def e__law_random : DD := ⟨"_law_random", 43, ["generator", "bound"], ["generator", "bound", "drawn", "turn"], d__law_random⟩
def e__law_cell : DD := ⟨"_law_cell", 44, ["script", "index"], ["script", "index"], d__law_cell⟩
def e__law_generator : DD := ⟨"_law_generator", 45, ["script", "index"], ["script", "index", "seed"], d__law_generator⟩
def e__law_pick : DD := ⟨"_law_pick", 46, ["generator", "told_ones"], ["generator", "told_ones"], d__law_pick⟩
def e__law_same : DD := ⟨"_law_same", 47, ["told", "due"], ["told", "due", "at"], d__law_same⟩
def e__law_is_whole : DD := ⟨"_law_is_whole", 48, ["value"], ["value"], d__law_is_whole⟩
def e__law_is_below : DD := ⟨"_law_is_below", 49, ["value", "bound"], ["value", "bound"], d__law_is_below⟩
def e__law_copied : DD := ⟨"_law_copied", 50, ["thing"], ["thing", "part"], d__law_copied⟩
def e__law_call : DD := ⟨"_law_call", 51, ["deed", "args"], ["deed", "args"], d__law_call⟩
def e__law_mark : DD := ⟨"_law_mark", 52, ["deed", "args"], ["deed", "args", "mark", "e"], d__law_mark⟩
def e__law_raised : DD := ⟨"_law_raised", 53, ["deed", "args", "kind", "value"], ["deed", "args", "kind", "value", "mark"], d__law_raised⟩
def e__law_refused : DD := ⟨"_law_refused", 54, ["deed", "args", "at", "kind", "wrong"], ["deed", "args", "at", "kind", "wrong", "blank", "thing"], d__law_refused⟩
def e__law_all_refused : DD := ⟨"_law_all_refused", 55, ["deeds", "at", "kind", "wrongs"], ["deeds", "at", "kind", "wrongs", "deed", "args", "wrong"], d__law_all_refused⟩
def e__law_is_lot : DD := ⟨"_law_is_lot", 56, ["size", "value"], ["size", "value", "one", "at"], d__law_is_lot⟩
def e__law_drawn_numbers : DD := ⟨"_law_drawn_numbers", 57, ["generator", "size"], ["generator", "size", "most", "at"], d__law_drawn_numbers⟩
def e__law_drawn_weights : DD := ⟨"_law_drawn_weights", 58, ["generator", "size"], ["generator", "size", "most", "at"], d__law_drawn_weights⟩
def e__law_wrong_numbers : DD := ⟨"_law_wrong_numbers", 59, ["numbers", "most"], ["numbers", "most", "found"], d__law_wrong_numbers⟩
def e__law_wrong_weights : DD := ⟨"_law_wrong_weights", 60, ["weights"], ["weights", "found"], d__law_wrong_weights⟩
def e__law_is_kind : DD := ⟨"_law_is_kind", 61, ["mark", "kind"], ["mark", "kind"], d__law_is_kind⟩
def e__law_heights : DD := ⟨"_law_heights", 62, ["numbers", "weights"], ["numbers", "weights", "found", "at", "number", "place"], d__law_heights⟩
def e__law_case_right : DD := ⟨"_law_case_right", 63, ["script", "index"], (["script", "index", "generator", "size", "numbers", "weights", "kept", "due", "told", "places", "at", "lots", "lot", "crossed", "over", "changed_told", "count", "other", "number", "copies"] : List Str) ++ (["deeds"] : List Str), d__law_case_right⟩
def ds : List DD := [e_is_whole, e_is_count, e_is_below, e_is_number, e_are_numbers_of, e_are_weights_of, e_check_row, e_check_numbers, e_check_weights, e_is_pair, e_reach_of, e_is_order_of, e_check_order, e_all_pairs_of, e_check_weighed, e_check_ordered, e_falls_of, e_keeps, e_weight_of, e_heaviest_of, e_fewest_changed, e_heights_of_row, e_row_kept, e_row_heights, e_row_changed, e_fall_count, e__law_hash, e__law_random, e__law_cell, e__law_generator, e__law_pick, e__law_same, e__law_is_whole, e__law_is_below, e__law_copied, e__law_call, e__law_mark, e__law_raised, e__law_refused, e__law_all_refused, e__law_is_lot, e__law_drawn_numbers, e__law_drawn_weights, e__law_wrong_numbers, e__law_wrong_weights, e__law_is_kind, e__law_heights, e__law_case_right]
def T : Nat → Option Fd := fun i => [d_is_whole, d_is_count, d_is_below, d_is_number, d_are_numbers_of, d_are_weights_of, d_check_row, d_check_numbers, d_check_weights, d_is_pair, d_reach_of, d_is_order_of, d_check_order, d_all_pairs_of, d_check_weighed, d_check_ordered, d_falls_of, d_keeps, d_weight_of, d_heaviest_of, d_fewest_changed, d_heights_of_row, d_row_kept, d_row_heights, d_row_changed, d_fall_count, d__law_hash, d__law_random, d__law_cell, d__law_generator, d__law_pick, d__law_same, d__law_is_whole, d__law_is_below, d__law_copied, d__law_call, d__law_mark, d__law_raised, d__law_refused, d__law_all_refused, d__law_is_lot, d__law_drawn_numbers, d__law_drawn_weights, d__law_wrong_numbers, d__law_wrong_weights, d__law_is_kind, d__law_heights, d__law_case_right, d_law][i]?
def kw : List (Nat × Nat × List Str × List Nat) := [(24, 0, ["weights", "numbers"], [1, 0]), (25, 0, ["numbers"], [0]), (22, 0, ["weights", "numbers"], [1, 0]), (23, 0, ["weights", "numbers"], [1, 0])]
def ks : List (Str × Int) := [("LONGEST", 60), ("MOST_THINGS", 12), ("MOST_NUMBER", 1000000000), ("MOST_WEIGHT", 1000)]
def cls : List Str := ["InvalidNumbers", "InvalidWeights", "InvalidOrder"]
def fit : Option Str := some "FitError"
def nm0 : Names := namesOf ds kw ks cls fit fun _ _ _ _ => false
def lamB : Nat → Arguments → Scope → Expr → Bool := fun k ps sc e => match k with
  | _ => false
def nm : Names := namesOf ds kw ks cls fit lamB
theorem ok_all : ds.all (DD.okB nm bodyL) = true := by decide +kernel
theorem ok_T : ∀ (f : Nat) (e : DD), ds[f]? = some e → T f = some e.F := fun f e h => by
  match f, h with
  | 0, h => obtain rfl := Option.some.inj h; rfl
  | 1, h => obtain rfl := Option.some.inj h; rfl
  | 2, h => obtain rfl := Option.some.inj h; rfl
  | 3, h => obtain rfl := Option.some.inj h; rfl
  | 4, h => obtain rfl := Option.some.inj h; rfl
  | 5, h => obtain rfl := Option.some.inj h; rfl
  | 6, h => obtain rfl := Option.some.inj h; rfl
  | 7, h => obtain rfl := Option.some.inj h; rfl
  | 8, h => obtain rfl := Option.some.inj h; rfl
  | 9, h => obtain rfl := Option.some.inj h; rfl
  | 10, h => obtain rfl := Option.some.inj h; rfl
  | 11, h => obtain rfl := Option.some.inj h; rfl
  | 12, h => obtain rfl := Option.some.inj h; rfl
  | 13, h => obtain rfl := Option.some.inj h; rfl
  | 14, h => obtain rfl := Option.some.inj h; rfl
  | 15, h => obtain rfl := Option.some.inj h; rfl
  | 16, h => obtain rfl := Option.some.inj h; rfl
  | 17, h => obtain rfl := Option.some.inj h; rfl
  | 18, h => obtain rfl := Option.some.inj h; rfl
  | 19, h => obtain rfl := Option.some.inj h; rfl
  | 20, h => obtain rfl := Option.some.inj h; rfl
  | 21, h => obtain rfl := Option.some.inj h; rfl
  | 22, h => obtain rfl := Option.some.inj h; rfl
  | 23, h => obtain rfl := Option.some.inj h; rfl
  | 24, h => obtain rfl := Option.some.inj h; rfl
  | 25, h => obtain rfl := Option.some.inj h; rfl
  | 26, h => obtain rfl := Option.some.inj h; rfl
  | 27, h => obtain rfl := Option.some.inj h; rfl
  | 28, h => obtain rfl := Option.some.inj h; rfl
  | 29, h => obtain rfl := Option.some.inj h; rfl
  | 30, h => obtain rfl := Option.some.inj h; rfl
  | 31, h => obtain rfl := Option.some.inj h; rfl
  | 32, h => obtain rfl := Option.some.inj h; rfl
  | 33, h => obtain rfl := Option.some.inj h; rfl
  | 34, h => obtain rfl := Option.some.inj h; rfl
  | 35, h => obtain rfl := Option.some.inj h; rfl
  | 36, h => obtain rfl := Option.some.inj h; rfl
  | 37, h => obtain rfl := Option.some.inj h; rfl
  | 38, h => obtain rfl := Option.some.inj h; rfl
  | 39, h => obtain rfl := Option.some.inj h; rfl
  | 40, h => obtain rfl := Option.some.inj h; rfl
  | 41, h => obtain rfl := Option.some.inj h; rfl
  | 42, h => obtain rfl := Option.some.inj h; rfl
  | 43, h => obtain rfl := Option.some.inj h; rfl
  | 44, h => obtain rfl := Option.some.inj h; rfl
  | 45, h => obtain rfl := Option.some.inj h; rfl
  | 46, h => obtain rfl := Option.some.inj h; rfl
  | 47, h => obtain rfl := Option.some.inj h; rfl
  | n + 48, h => exact absurd h (by simp [ds])
section
variable {K : PySem.W.Frag} {a : Addr} {fd : FuncData}
theorem b_is_whole (F : FunD K e_is_whole.x e_is_whole.x (defArgs (e_is_whole.st bodyL)) (defBody (e_is_whole.st bodyL)) (defScope (e_is_whole.st bodyL)) [] [] a fd) : BindOk K kw 0 e_is_whole fd := by
  refine ⟨F.bindsN fun _ _ _ _ _ _ us hl => match us, hl with | [_], _ => rfl, fun n ks perm hm => ?_⟩
  simp [kw] at hm
theorem b_is_count (F : FunD K e_is_count.x e_is_count.x (defArgs (e_is_count.st bodyL)) (defBody (e_is_count.st bodyL)) (defScope (e_is_count.st bodyL)) [] [] a fd) : BindOk K kw 1 e_is_count fd := by
  refine ⟨F.bindsN fun _ _ _ _ _ _ us hl => match us, hl with | [_], _ => rfl, fun n ks perm hm => ?_⟩
  simp [kw] at hm
theorem b_is_below (F : FunD K e_is_below.x e_is_below.x (defArgs (e_is_below.st bodyL)) (defBody (e_is_below.st bodyL)) (defScope (e_is_below.st bodyL)) [] [] a fd) : BindOk K kw 2 e_is_below fd := by
  refine ⟨F.bindsN fun _ _ _ _ _ _ us hl => match us, hl with | [_, _], _ => rfl, fun n ks perm hm => ?_⟩
  simp [kw] at hm
theorem b_is_number (F : FunD K e_is_number.x e_is_number.x (defArgs (e_is_number.st bodyL)) (defBody (e_is_number.st bodyL)) (defScope (e_is_number.st bodyL)) [] [] a fd) : BindOk K kw 3 e_is_number fd := by
  refine ⟨F.bindsN fun _ _ _ _ _ _ us hl => match us, hl with | [_], _ => rfl, fun n ks perm hm => ?_⟩
  simp [kw] at hm
theorem b_are_numbers_of (F : FunD K e_are_numbers_of.x e_are_numbers_of.x (defArgs (e_are_numbers_of.st bodyL)) (defBody (e_are_numbers_of.st bodyL)) (defScope (e_are_numbers_of.st bodyL)) [] [] a fd) : BindOk K kw 4 e_are_numbers_of fd := by
  refine ⟨F.bindsN fun _ _ _ _ _ _ us hl => match us, hl with | [_, _], _ => rfl, fun n ks perm hm => ?_⟩
  simp [kw] at hm
theorem b_are_weights_of (F : FunD K e_are_weights_of.x e_are_weights_of.x (defArgs (e_are_weights_of.st bodyL)) (defBody (e_are_weights_of.st bodyL)) (defScope (e_are_weights_of.st bodyL)) [] [] a fd) : BindOk K kw 5 e_are_weights_of fd := by
  refine ⟨F.bindsN fun _ _ _ _ _ _ us hl => match us, hl with | [_, _], _ => rfl, fun n ks perm hm => ?_⟩
  simp [kw] at hm
theorem b_check_row (F : FunD K e_check_row.x e_check_row.x (defArgs (e_check_row.st bodyL)) (defBody (e_check_row.st bodyL)) (defScope (e_check_row.st bodyL)) [] [] a fd) : BindOk K kw 6 e_check_row fd := by
  refine ⟨F.bindsN fun _ _ _ _ _ _ us hl => match us, hl with | [_], _ => rfl, fun n ks perm hm => ?_⟩
  simp [kw] at hm
theorem b_check_numbers (F : FunD K e_check_numbers.x e_check_numbers.x (defArgs (e_check_numbers.st bodyL)) (defBody (e_check_numbers.st bodyL)) (defScope (e_check_numbers.st bodyL)) [] [] a fd) : BindOk K kw 7 e_check_numbers fd := by
  refine ⟨F.bindsN fun _ _ _ _ _ _ us hl => match us, hl with | [_], _ => rfl, fun n ks perm hm => ?_⟩
  simp [kw] at hm
theorem b_check_weights (F : FunD K e_check_weights.x e_check_weights.x (defArgs (e_check_weights.st bodyL)) (defBody (e_check_weights.st bodyL)) (defScope (e_check_weights.st bodyL)) [] [] a fd) : BindOk K kw 8 e_check_weights fd := by
  refine ⟨F.bindsN fun _ _ _ _ _ _ us hl => match us, hl with | [_, _], _ => rfl, fun n ks perm hm => ?_⟩
  simp [kw] at hm
theorem b_is_pair (F : FunD K e_is_pair.x e_is_pair.x (defArgs (e_is_pair.st bodyL)) (defBody (e_is_pair.st bodyL)) (defScope (e_is_pair.st bodyL)) [] [] a fd) : BindOk K kw 9 e_is_pair fd := by
  refine ⟨F.bindsN fun _ _ _ _ _ _ us hl => match us, hl with | [_, _], _ => rfl, fun n ks perm hm => ?_⟩
  simp [kw] at hm
theorem b_reach_of (F : FunD K e_reach_of.x e_reach_of.x (defArgs (e_reach_of.st bodyL)) (defBody (e_reach_of.st bodyL)) (defScope (e_reach_of.st bodyL)) [] [] a fd) : BindOk K kw 10 e_reach_of fd := by
  refine ⟨F.bindsN fun _ _ _ _ _ _ us hl => match us, hl with | [_, _], _ => rfl, fun n ks perm hm => ?_⟩
  simp [kw] at hm
theorem b_is_order_of (F : FunD K e_is_order_of.x e_is_order_of.x (defArgs (e_is_order_of.st bodyL)) (defBody (e_is_order_of.st bodyL)) (defScope (e_is_order_of.st bodyL)) [] [] a fd) : BindOk K kw 11 e_is_order_of fd := by
  refine ⟨F.bindsN fun _ _ _ _ _ _ us hl => match us, hl with | [_, _], _ => rfl, fun n ks perm hm => ?_⟩
  simp [kw] at hm
theorem b_check_order (F : FunD K e_check_order.x e_check_order.x (defArgs (e_check_order.st bodyL)) (defBody (e_check_order.st bodyL)) (defScope (e_check_order.st bodyL)) [] [] a fd) : BindOk K kw 12 e_check_order fd := by
  refine ⟨F.bindsN fun _ _ _ _ _ _ us hl => match us, hl with | [_, _], _ => rfl, fun n ks perm hm => ?_⟩
  simp [kw] at hm
theorem b_all_pairs_of (F : FunD K e_all_pairs_of.x e_all_pairs_of.x (defArgs (e_all_pairs_of.st bodyL)) (defBody (e_all_pairs_of.st bodyL)) (defScope (e_all_pairs_of.st bodyL)) [] [] a fd) : BindOk K kw 13 e_all_pairs_of fd := by
  refine ⟨F.bindsN fun _ _ _ _ _ _ us hl => match us, hl with | [_, _], _ => rfl, fun n ks perm hm => ?_⟩
  simp [kw] at hm
theorem b_check_weighed (F : FunD K e_check_weighed.x e_check_weighed.x (defArgs (e_check_weighed.st bodyL)) (defBody (e_check_weighed.st bodyL)) (defScope (e_check_weighed.st bodyL)) [] [] a fd) : BindOk K kw 14 e_check_weighed fd := by
  refine ⟨F.bindsN fun _ _ _ _ _ _ us hl => match us, hl with | [_, _], _ => rfl, fun n ks perm hm => ?_⟩
  simp [kw] at hm
theorem b_check_ordered (F : FunD K e_check_ordered.x e_check_ordered.x (defArgs (e_check_ordered.st bodyL)) (defBody (e_check_ordered.st bodyL)) (defScope (e_check_ordered.st bodyL)) [] [] a fd) : BindOk K kw 15 e_check_ordered fd := by
  refine ⟨F.bindsN fun _ _ _ _ _ _ us hl => match us, hl with | [_, _, _], _ => rfl, fun n ks perm hm => ?_⟩
  simp [kw] at hm
theorem b_falls_of (F : FunD K e_falls_of.x e_falls_of.x (defArgs (e_falls_of.st bodyL)) (defBody (e_falls_of.st bodyL)) (defScope (e_falls_of.st bodyL)) [] [] a fd) : BindOk K kw 16 e_falls_of fd := by
  refine ⟨F.bindsN fun _ _ _ _ _ _ us hl => match us, hl with | [_, _], _ => rfl, fun n ks perm hm => ?_⟩
  simp [kw] at hm
theorem b_keeps (F : FunD K e_keeps.x e_keeps.x (defArgs (e_keeps.st bodyL)) (defBody (e_keeps.st bodyL)) (defScope (e_keeps.st bodyL)) [] [] a fd) : BindOk K kw 17 e_keeps fd := by
  refine ⟨F.bindsN fun _ _ _ _ _ _ us hl => match us, hl with | [_, _], _ => rfl, fun n ks perm hm => ?_⟩
  simp [kw] at hm
theorem b_weight_of (F : FunD K e_weight_of.x e_weight_of.x (defArgs (e_weight_of.st bodyL)) (defBody (e_weight_of.st bodyL)) (defScope (e_weight_of.st bodyL)) [] [] a fd) : BindOk K kw 18 e_weight_of fd := by
  refine ⟨F.bindsN fun _ _ _ _ _ _ us hl => match us, hl with | [_, _], _ => rfl, fun n ks perm hm => ?_⟩
  simp [kw] at hm
theorem b_heaviest_of (F : FunD K e_heaviest_of.x e_heaviest_of.x (defArgs (e_heaviest_of.st bodyL)) (defBody (e_heaviest_of.st bodyL)) (defScope (e_heaviest_of.st bodyL)) [] [] a fd) : BindOk K kw 19 e_heaviest_of fd := by
  refine ⟨F.bindsN fun _ _ _ _ _ _ us hl => match us, hl with | [_, _, _], _ => rfl, fun n ks perm hm => ?_⟩
  simp [kw] at hm
theorem b_fewest_changed (F : FunD K e_fewest_changed.x e_fewest_changed.x (defArgs (e_fewest_changed.st bodyL)) (defBody (e_fewest_changed.st bodyL)) (defScope (e_fewest_changed.st bodyL)) [] [] a fd) : BindOk K kw 20 e_fewest_changed fd := by
  refine ⟨F.bindsN fun _ _ _ _ _ _ us hl => match us, hl with | [_, _, _], _ => rfl, fun n ks perm hm => ?_⟩
  simp [kw] at hm
theorem b_heights_of_row (F : FunD K e_heights_of_row.x e_heights_of_row.x (defArgs (e_heights_of_row.st bodyL)) (defBody (e_heights_of_row.st bodyL)) (defScope (e_heights_of_row.st bodyL)) [] [] a fd) : BindOk K kw 21 e_heights_of_row fd := by
  refine ⟨F.bindsN fun _ _ _ _ _ _ us hl => match us, hl with | [_, _], _ => rfl, fun n ks perm hm => ?_⟩
  simp [kw] at hm
theorem b_row_kept (F : FunD K e_row_kept.x e_row_kept.x (defArgs (e_row_kept.st bodyL)) (defBody (e_row_kept.st bodyL)) (defScope (e_row_kept.st bodyL)) [] [] a fd) : BindOk K kw 22 e_row_kept fd := by
  refine ⟨F.bindsN fun _ _ _ _ _ _ us hl => match us, hl with | [_, _], _ => rfl, fun n ks perm hm => ?_⟩
  simp only [kw, List.mem_cons, Prod.mk.injEq, List.not_mem_nil, or_false] at hm
  have hm : (n = 0 ∧ ks = (["weights", "numbers"] : List Str) ∧ perm = [1, 0]) := by
    revert hm; simp
  obtain ⟨oc, od, dV, kV, doc, pm, an, cdv, ct, osl, rfl, _, _, hD, _⟩ := F.ex
  rcases hD with ⟨_, rfl⟩ | ⟨e, _⟩
  rotate_left
  · exact absurd rfl e
  obtain ⟨rfl, rfl, rfl⟩ := hm
  · intro s us ws hK h1 h2
    match us, ws, h1, h2 with
    | [], [_, _], _, _ => exact .of_eq rfl
theorem b_row_heights (F : FunD K e_row_heights.x e_row_heights.x (defArgs (e_row_heights.st bodyL)) (defBody (e_row_heights.st bodyL)) (defScope (e_row_heights.st bodyL)) [] [] a fd) : BindOk K kw 23 e_row_heights fd := by
  refine ⟨F.bindsN fun _ _ _ _ _ _ us hl => match us, hl with | [_, _], _ => rfl, fun n ks perm hm => ?_⟩
  simp only [kw, List.mem_cons, Prod.mk.injEq, List.not_mem_nil, or_false] at hm
  have hm : (n = 0 ∧ ks = (["weights", "numbers"] : List Str) ∧ perm = [1, 0]) := by
    revert hm; simp
  obtain ⟨oc, od, dV, kV, doc, pm, an, cdv, ct, osl, rfl, _, _, hD, _⟩ := F.ex
  rcases hD with ⟨_, rfl⟩ | ⟨e, _⟩
  rotate_left
  · exact absurd rfl e
  obtain ⟨rfl, rfl, rfl⟩ := hm
  · intro s us ws hK h1 h2
    match us, ws, h1, h2 with
    | [], [_, _], _, _ => exact .of_eq rfl
theorem b_row_changed (F : FunD K e_row_changed.x e_row_changed.x (defArgs (e_row_changed.st bodyL)) (defBody (e_row_changed.st bodyL)) (defScope (e_row_changed.st bodyL)) [] [] a fd) : BindOk K kw 24 e_row_changed fd := by
  refine ⟨F.bindsN fun _ _ _ _ _ _ us hl => match us, hl with | [_, _], _ => rfl, fun n ks perm hm => ?_⟩
  simp only [kw, List.mem_cons, Prod.mk.injEq, List.not_mem_nil, or_false] at hm
  have hm : (n = 0 ∧ ks = (["weights", "numbers"] : List Str) ∧ perm = [1, 0]) := by
    revert hm; simp
  obtain ⟨oc, od, dV, kV, doc, pm, an, cdv, ct, osl, rfl, _, _, hD, _⟩ := F.ex
  rcases hD with ⟨_, rfl⟩ | ⟨e, _⟩
  rotate_left
  · exact absurd rfl e
  obtain ⟨rfl, rfl, rfl⟩ := hm
  · intro s us ws hK h1 h2
    match us, ws, h1, h2 with
    | [], [_, _], _, _ => exact .of_eq rfl
theorem b_fall_count (F : FunD K e_fall_count.x e_fall_count.x (defArgs (e_fall_count.st bodyL)) (defBody (e_fall_count.st bodyL)) (defScope (e_fall_count.st bodyL)) [] [] a fd) : BindOk K kw 25 e_fall_count fd := by
  refine ⟨F.bindsN fun _ _ _ _ _ _ us hl => match us, hl with | [_], _ => rfl, fun n ks perm hm => ?_⟩
  simp only [kw, List.mem_cons, Prod.mk.injEq, List.not_mem_nil, or_false] at hm
  have hm : (n = 0 ∧ ks = (["numbers"] : List Str) ∧ perm = [0]) := by
    revert hm; simp
  obtain ⟨oc, od, dV, kV, doc, pm, an, cdv, ct, osl, rfl, _, _, hD, _⟩ := F.ex
  rcases hD with ⟨_, rfl⟩ | ⟨e, _⟩
  rotate_left
  · exact absurd rfl e
  obtain ⟨rfl, rfl, rfl⟩ := hm
  · intro s us ws hK h1 h2
    match us, ws, h1, h2 with
    | [], [_], _, _ => exact .of_eq rfl
theorem b__law_hash (F : FunD K e__law_hash.x e__law_hash.x (defArgs (e__law_hash.st bodyL)) (defBody (e__law_hash.st bodyL)) (defScope (e__law_hash.st bodyL)) [] [] a fd) : BindOk K kw 26 e__law_hash fd := by
  refine ⟨F.bindsN fun _ _ _ _ _ _ us hl => match us, hl with | [_, _], _ => rfl, fun n ks perm hm => ?_⟩
  simp [kw] at hm
theorem b__law_random (F : FunD K e__law_random.x e__law_random.x (defArgs (e__law_random.st bodyL)) (defBody (e__law_random.st bodyL)) (defScope (e__law_random.st bodyL)) [] [] a fd) : BindOk K kw 27 e__law_random fd := by
  refine ⟨F.bindsN fun _ _ _ _ _ _ us hl => match us, hl with | [_, _], _ => rfl, fun n ks perm hm => ?_⟩
  simp [kw] at hm
theorem b__law_cell (F : FunD K e__law_cell.x e__law_cell.x (defArgs (e__law_cell.st bodyL)) (defBody (e__law_cell.st bodyL)) (defScope (e__law_cell.st bodyL)) [] [] a fd) : BindOk K kw 28 e__law_cell fd := by
  refine ⟨F.bindsN fun _ _ _ _ _ _ us hl => match us, hl with | [_, _], _ => rfl, fun n ks perm hm => ?_⟩
  simp [kw] at hm
theorem b__law_generator (F : FunD K e__law_generator.x e__law_generator.x (defArgs (e__law_generator.st bodyL)) (defBody (e__law_generator.st bodyL)) (defScope (e__law_generator.st bodyL)) [] [] a fd) : BindOk K kw 29 e__law_generator fd := by
  refine ⟨F.bindsN fun _ _ _ _ _ _ us hl => match us, hl with | [_, _], _ => rfl, fun n ks perm hm => ?_⟩
  simp [kw] at hm
theorem b__law_pick (F : FunD K e__law_pick.x e__law_pick.x (defArgs (e__law_pick.st bodyL)) (defBody (e__law_pick.st bodyL)) (defScope (e__law_pick.st bodyL)) [] [] a fd) : BindOk K kw 30 e__law_pick fd := by
  refine ⟨F.bindsN fun _ _ _ _ _ _ us hl => match us, hl with | [_, _], _ => rfl, fun n ks perm hm => ?_⟩
  simp [kw] at hm
theorem b__law_same (F : FunD K e__law_same.x e__law_same.x (defArgs (e__law_same.st bodyL)) (defBody (e__law_same.st bodyL)) (defScope (e__law_same.st bodyL)) [] [] a fd) : BindOk K kw 31 e__law_same fd := by
  refine ⟨F.bindsN fun _ _ _ _ _ _ us hl => match us, hl with | [_, _], _ => rfl, fun n ks perm hm => ?_⟩
  simp [kw] at hm
theorem b__law_is_whole (F : FunD K e__law_is_whole.x e__law_is_whole.x (defArgs (e__law_is_whole.st bodyL)) (defBody (e__law_is_whole.st bodyL)) (defScope (e__law_is_whole.st bodyL)) [] [] a fd) : BindOk K kw 32 e__law_is_whole fd := by
  refine ⟨F.bindsN fun _ _ _ _ _ _ us hl => match us, hl with | [_], _ => rfl, fun n ks perm hm => ?_⟩
  simp [kw] at hm
theorem b__law_is_below (F : FunD K e__law_is_below.x e__law_is_below.x (defArgs (e__law_is_below.st bodyL)) (defBody (e__law_is_below.st bodyL)) (defScope (e__law_is_below.st bodyL)) [] [] a fd) : BindOk K kw 33 e__law_is_below fd := by
  refine ⟨F.bindsN fun _ _ _ _ _ _ us hl => match us, hl with | [_, _], _ => rfl, fun n ks perm hm => ?_⟩
  simp [kw] at hm
theorem b__law_copied (F : FunD K e__law_copied.x e__law_copied.x (defArgs (e__law_copied.st bodyL)) (defBody (e__law_copied.st bodyL)) (defScope (e__law_copied.st bodyL)) [] [] a fd) : BindOk K kw 34 e__law_copied fd := by
  refine ⟨F.bindsN fun _ _ _ _ _ _ us hl => match us, hl with | [_], _ => rfl, fun n ks perm hm => ?_⟩
  simp [kw] at hm
theorem b__law_call (F : FunD K e__law_call.x e__law_call.x (defArgs (e__law_call.st bodyL)) (defBody (e__law_call.st bodyL)) (defScope (e__law_call.st bodyL)) [] [] a fd) : BindOk K kw 35 e__law_call fd := by
  refine ⟨F.bindsN fun _ _ _ _ _ _ us hl => match us, hl with | [_, _], _ => rfl, fun n ks perm hm => ?_⟩
  simp [kw] at hm
theorem b__law_mark (F : FunD K e__law_mark.x e__law_mark.x (defArgs (e__law_mark.st bodyL)) (defBody (e__law_mark.st bodyL)) (defScope (e__law_mark.st bodyL)) [] [] a fd) : BindOk K kw 36 e__law_mark fd := by
  refine ⟨F.bindsN fun _ _ _ _ _ _ us hl => match us, hl with | [_, _], _ => rfl, fun n ks perm hm => ?_⟩
  simp [kw] at hm
theorem b__law_raised (F : FunD K e__law_raised.x e__law_raised.x (defArgs (e__law_raised.st bodyL)) (defBody (e__law_raised.st bodyL)) (defScope (e__law_raised.st bodyL)) [] [] a fd) : BindOk K kw 37 e__law_raised fd := by
  refine ⟨F.bindsN fun _ _ _ _ _ _ us hl => match us, hl with | [_, _, _, _], _ => rfl, fun n ks perm hm => ?_⟩
  simp [kw] at hm
theorem b__law_refused (F : FunD K e__law_refused.x e__law_refused.x (defArgs (e__law_refused.st bodyL)) (defBody (e__law_refused.st bodyL)) (defScope (e__law_refused.st bodyL)) [] [] a fd) : BindOk K kw 38 e__law_refused fd := by
  refine ⟨F.bindsN fun _ _ _ _ _ _ us hl => match us, hl with | [_, _, _, _, _], _ => rfl, fun n ks perm hm => ?_⟩
  simp [kw] at hm
theorem b__law_all_refused (F : FunD K e__law_all_refused.x e__law_all_refused.x (defArgs (e__law_all_refused.st bodyL)) (defBody (e__law_all_refused.st bodyL)) (defScope (e__law_all_refused.st bodyL)) [] [] a fd) : BindOk K kw 39 e__law_all_refused fd := by
  refine ⟨F.bindsN fun _ _ _ _ _ _ us hl => match us, hl with | [_, _, _, _], _ => rfl, fun n ks perm hm => ?_⟩
  simp [kw] at hm
theorem b__law_is_lot (F : FunD K e__law_is_lot.x e__law_is_lot.x (defArgs (e__law_is_lot.st bodyL)) (defBody (e__law_is_lot.st bodyL)) (defScope (e__law_is_lot.st bodyL)) [] [] a fd) : BindOk K kw 40 e__law_is_lot fd := by
  refine ⟨F.bindsN fun _ _ _ _ _ _ us hl => match us, hl with | [_, _], _ => rfl, fun n ks perm hm => ?_⟩
  simp [kw] at hm
theorem b__law_drawn_numbers (F : FunD K e__law_drawn_numbers.x e__law_drawn_numbers.x (defArgs (e__law_drawn_numbers.st bodyL)) (defBody (e__law_drawn_numbers.st bodyL)) (defScope (e__law_drawn_numbers.st bodyL)) [] [] a fd) : BindOk K kw 41 e__law_drawn_numbers fd := by
  refine ⟨F.bindsN fun _ _ _ _ _ _ us hl => match us, hl with | [_, _], _ => rfl, fun n ks perm hm => ?_⟩
  simp [kw] at hm
theorem b__law_drawn_weights (F : FunD K e__law_drawn_weights.x e__law_drawn_weights.x (defArgs (e__law_drawn_weights.st bodyL)) (defBody (e__law_drawn_weights.st bodyL)) (defScope (e__law_drawn_weights.st bodyL)) [] [] a fd) : BindOk K kw 42 e__law_drawn_weights fd := by
  refine ⟨F.bindsN fun _ _ _ _ _ _ us hl => match us, hl with | [_, _], _ => rfl, fun n ks perm hm => ?_⟩
  simp [kw] at hm
theorem b__law_wrong_numbers (F : FunD K e__law_wrong_numbers.x e__law_wrong_numbers.x (defArgs (e__law_wrong_numbers.st bodyL)) (defBody (e__law_wrong_numbers.st bodyL)) (defScope (e__law_wrong_numbers.st bodyL)) [] [] a fd) : BindOk K kw 43 e__law_wrong_numbers fd := by
  refine ⟨F.bindsN fun _ _ _ _ _ _ us hl => match us, hl with | [_, _], _ => rfl, fun n ks perm hm => ?_⟩
  simp [kw] at hm
theorem b__law_wrong_weights (F : FunD K e__law_wrong_weights.x e__law_wrong_weights.x (defArgs (e__law_wrong_weights.st bodyL)) (defBody (e__law_wrong_weights.st bodyL)) (defScope (e__law_wrong_weights.st bodyL)) [] [] a fd) : BindOk K kw 44 e__law_wrong_weights fd := by
  refine ⟨F.bindsN fun _ _ _ _ _ _ us hl => match us, hl with | [_], _ => rfl, fun n ks perm hm => ?_⟩
  simp [kw] at hm
theorem b__law_is_kind (F : FunD K e__law_is_kind.x e__law_is_kind.x (defArgs (e__law_is_kind.st bodyL)) (defBody (e__law_is_kind.st bodyL)) (defScope (e__law_is_kind.st bodyL)) [] [] a fd) : BindOk K kw 45 e__law_is_kind fd := by
  refine ⟨F.bindsN fun _ _ _ _ _ _ us hl => match us, hl with | [_, _], _ => rfl, fun n ks perm hm => ?_⟩
  simp [kw] at hm
theorem b__law_heights (F : FunD K e__law_heights.x e__law_heights.x (defArgs (e__law_heights.st bodyL)) (defBody (e__law_heights.st bodyL)) (defScope (e__law_heights.st bodyL)) [] [] a fd) : BindOk K kw 46 e__law_heights fd := by
  refine ⟨F.bindsN fun _ _ _ _ _ _ us hl => match us, hl with | [_, _], _ => rfl, fun n ks perm hm => ?_⟩
  simp [kw] at hm
theorem b__law_case_right (F : FunD K e__law_case_right.x e__law_case_right.x (defArgs (e__law_case_right.st bodyL)) (defBody (e__law_case_right.st bodyL)) (defScope (e__law_case_right.st bodyL)) [] [] a fd) : BindOk K kw 47 e__law_case_right fd := by
  refine ⟨F.bindsN fun _ _ _ _ _ _ us hl => match us, hl with | [_, _], _ => rfl, fun n ks perm hm => ?_⟩
  simp [kw] at hm
theorem b_all (f : Nat) (e : DD) (fd : FuncData) (h : ds[f]? = some e) (F : FunD K e.x e.x (defArgs (e.st bodyL)) (defBody (e.st bodyL)) (defScope (e.st bodyL)) [] [] (He.ga K e.x) fd) : BindOk K kw f e fd := by
  match f, h with
  | 0, h => obtain rfl := Option.some.inj h; exact b_is_whole F
  | 1, h => obtain rfl := Option.some.inj h; exact b_is_count F
  | 2, h => obtain rfl := Option.some.inj h; exact b_is_below F
  | 3, h => obtain rfl := Option.some.inj h; exact b_is_number F
  | 4, h => obtain rfl := Option.some.inj h; exact b_are_numbers_of F
  | 5, h => obtain rfl := Option.some.inj h; exact b_are_weights_of F
  | 6, h => obtain rfl := Option.some.inj h; exact b_check_row F
  | 7, h => obtain rfl := Option.some.inj h; exact b_check_numbers F
  | 8, h => obtain rfl := Option.some.inj h; exact b_check_weights F
  | 9, h => obtain rfl := Option.some.inj h; exact b_is_pair F
  | 10, h => obtain rfl := Option.some.inj h; exact b_reach_of F
  | 11, h => obtain rfl := Option.some.inj h; exact b_is_order_of F
  | 12, h => obtain rfl := Option.some.inj h; exact b_check_order F
  | 13, h => obtain rfl := Option.some.inj h; exact b_all_pairs_of F
  | 14, h => obtain rfl := Option.some.inj h; exact b_check_weighed F
  | 15, h => obtain rfl := Option.some.inj h; exact b_check_ordered F
  | 16, h => obtain rfl := Option.some.inj h; exact b_falls_of F
  | 17, h => obtain rfl := Option.some.inj h; exact b_keeps F
  | 18, h => obtain rfl := Option.some.inj h; exact b_weight_of F
  | 19, h => obtain rfl := Option.some.inj h; exact b_heaviest_of F
  | 20, h => obtain rfl := Option.some.inj h; exact b_fewest_changed F
  | 21, h => obtain rfl := Option.some.inj h; exact b_heights_of_row F
  | 22, h => obtain rfl := Option.some.inj h; exact b_row_kept F
  | 23, h => obtain rfl := Option.some.inj h; exact b_row_heights F
  | 24, h => obtain rfl := Option.some.inj h; exact b_row_changed F
  | 25, h => obtain rfl := Option.some.inj h; exact b_fall_count F
  | 26, h => obtain rfl := Option.some.inj h; exact b__law_hash F
  | 27, h => obtain rfl := Option.some.inj h; exact b__law_random F
  | 28, h => obtain rfl := Option.some.inj h; exact b__law_cell F
  | 29, h => obtain rfl := Option.some.inj h; exact b__law_generator F
  | 30, h => obtain rfl := Option.some.inj h; exact b__law_pick F
  | 31, h => obtain rfl := Option.some.inj h; exact b__law_same F
  | 32, h => obtain rfl := Option.some.inj h; exact b__law_is_whole F
  | 33, h => obtain rfl := Option.some.inj h; exact b__law_is_below F
  | 34, h => obtain rfl := Option.some.inj h; exact b__law_copied F
  | 35, h => obtain rfl := Option.some.inj h; exact b__law_call F
  | 36, h => obtain rfl := Option.some.inj h; exact b__law_mark F
  | 37, h => obtain rfl := Option.some.inj h; exact b__law_raised F
  | 38, h => obtain rfl := Option.some.inj h; exact b__law_refused F
  | 39, h => obtain rfl := Option.some.inj h; exact b__law_all_refused F
  | 40, h => obtain rfl := Option.some.inj h; exact b__law_is_lot F
  | 41, h => obtain rfl := Option.some.inj h; exact b__law_drawn_numbers F
  | 42, h => obtain rfl := Option.some.inj h; exact b__law_drawn_weights F
  | 43, h => obtain rfl := Option.some.inj h; exact b__law_wrong_numbers F
  | 44, h => obtain rfl := Option.some.inj h; exact b__law_wrong_weights F
  | 45, h => obtain rfl := Option.some.inj h; exact b__law_is_kind F
  | 46, h => obtain rfl := Option.some.inj h; exact b__law_heights F
  | 47, h => obtain rfl := Option.some.inj h; exact b__law_case_right F
  | n + 48, h => exact absurd h (by simp [ds])
end
theorem ok_lam : LamOk nm T lamB := fun k L h => by
  unfold lamB at h
  split at h
  · cases h
theorem ok_free {q : Str} {K : PySem.W.Frag} (k : Nat) (params : Arguments) (scope : Scope) (body : Expr) (h : lamB k params scope body = true) : (fnsOf K ds cls lamB).ml k ⟨q, params, body, scope⟩ ∧ (∀ y ∈ scope.names, y.2 ≠ .free) ∧ ∀ env, defaultsOf params env = ([], []) := by
  refine ⟨h, ?_⟩
  unfold lamB at h
  split at h
  · cases h
def stL : Stmt := bodyL.getD 64 (.Pass ⟨0, 0, 0, 0⟩)
def nL : List Str := ["script", "index"]
theorem ok_sc : FnScope nL ["script"] (defScope stL) := scB_ok (by decide +kernel)
theorem ok_law : isTop { nm with mks := true } nL [] (defScope stL) d_law.body (defBody stL) = true := by decide +kernel
/-- what the law computes -/
def run (s : List Int) : CR := runF ⟨RF.G T 5000 20, sigT T⟩ 5000 d_law [.z (.scr s)]
def dL : He.DefD := ⟨("law", none), "law", "law", defArgs stL, defBody stL, defScope stL, [], []⟩
def fnL : List He.DefD := dL :: ds.map (DD.d bodyL)
def faL : List He.Fa := He.Fa.glo "law" :: (ds.map (fun e => He.Fa.glo e.x) ++ (bltNames.map He.Fa.free ++ (ks.map (fun q => He.Fa.int q.1 q.2) ++ (cls.map He.Fa.glo ++ fit.toList.map He.Fa.glo))))
abbrev R : PySem.W.OpenRow := PySem.W.OpenLaw.row PySem.Challenge.rw_risingfits_k34_whole_falls_of_rows
abbrev tf : List He.Defn := [("law", none)]
abbrev ex : PySem.W.Frag → Bool := clsOkB PySem.Challenge.rw_risingfits_k34_whole_falls_of_rows.prog cls fit
abbrev hk : PySem.W.Hook := hookY 6 faL fnL [] tf ex
def ob (s : PySem.W.SharedT) : He.AlX × Bool := obY 6 faL fnL [] tf ex (HandSHeadRun.getT s)
theorem ob_eq (s : PySem.W.SharedT) : ob s = hk.obs s.abs := obY_eq (HandSHeadRun.getT_eq s)
def names : List Str := (["is_whole", "is_count", "is_below", "is_number", "are_numbers_of", "are_weights_of", "check_row", "check_numbers", "check_weights", "is_pair", "reach_of", "is_order_of", "check_order", "all_pairs_of", "check_weighed", "check_ordered", "falls_of", "keeps", "weight_of", "heaviest_of"] : List Str) ++ (["fewest_changed", "heights_of_row", "row_kept", "row_heights", "row_changed", "fall_count", "_law_hash", "_law_random", "_law_cell", "_law_generator", "_law_pick", "_law_same", "_law_is_whole", "_law_is_below", "_law_copied", "_law_call", "_law_mark", "_law_raised", "_law_refused", "_law_all_refused"] : List Str) ++ (["_law_is_lot", "_law_drawn_numbers", "_law_drawn_weights", "_law_wrong_numbers", "_law_wrong_weights", "_law_is_kind", "_law_heights", "_law_case_right", "LONGEST", "MOST_THINGS", "MOST_NUMBER", "MOST_WEIGHT", "FitError", "InvalidNumbers", "InvalidWeights", "InvalidOrder"] : List Str)
end K34
/-! K34: the head (printed by genhead.py). -/
namespace K34
open L2 PySem RF PySem.Spec PyProof.Rows
theorem headrun (w : World) : HandSHeadRun.RunEq R (PySem.W.view R.prog [64]) hk ob 4000 names w := by
  intro os
  kernel_rfl
theorem fitG {w : World} {K : PySem.W.Frag} {h : Heap} {mg : Str → Option Value} {fa : Addr} (KX : K.In h) (hst : StatAt h) (G : h.Ns mainGlobals mg) (c : He.SaysX faL fnL [] tf ex w h K) (hmg : mg ("law" : Str) = some (.ref fa))
    (math : ∀ s : List Int, s.length ≤ 63 → (∀ z ∈ s, Builtin.Int.intBits z ≤ 1048576) → run s = .rt (.z (.bl true)) []) : ∃ (K : PySem.W.Frag) (c T : Addr), K.In h ∧ StatAt h ∧ h.get? T = some { cls := .none, data := .fields #[] } ∧ K.lookup T = none ∧ PySem.W.CodeHd h c T ∧ LawG PySem.Challenge.rw_risingfits_k34_whole_falls_of_rows.prog w K (20 + 3) 63 "script" mg fa c T :=
  law_at (body := bodyL) (ds := ds) (kw := kw) (ks := ks) (cls := cls) (fit := fit) (lamB := lamB) (T := T) (stL := stL) (nL := nL) (F := d_law) (Wf := 5000) (n := 20) KX hst G c (List.mem_singleton.mpr rfl) List.mem_cons_self List.mem_cons_self hmg
    (fun e m => List.mem_cons_of_mem _ (List.mem_map_of_mem m)) (fun e m => List.mem_cons_of_mem _ (List.mem_append_left _ (List.mem_map.mpr ⟨e, m, rfl⟩)))
    (fun x m => List.mem_cons_of_mem _ (List.mem_append_right _ (List.mem_append_left _ (List.mem_map_of_mem m)))) (fun q m => List.mem_cons_of_mem _ (List.mem_append_right _ (List.mem_append_right _ (List.mem_append_left _ (List.mem_map.mpr ⟨q, m, rfl⟩)))))
    (fun x m => List.mem_cons_of_mem _ (List.mem_append_right _ (List.mem_append_right _ (List.mem_append_right _ (List.mem_append_left _ (List.mem_map_of_mem m)))))) (fun x e => List.mem_cons_of_mem _ (List.mem_append_right _ (List.mem_append_right _ (List.mem_append_right _ (List.mem_append_right _ (List.mem_map_of_mem (by rw [e]; exact List.mem_singleton.mpr rfl))))))) (by decide +kernel)
    ok_all ok_T (fun K f e fd => b_all f e fd) ok_lam (fun q k ps sc b h => ok_free k ps sc b h) ok_sc ok_law rfl rfl (fun _ _ _ _ _ _ us hl => match us, hl with | [_], _ => rfl) math
end K34
section
open PySem PySem.Calls PySem.W PyProof.Rows
theorem K34.holds_of (math : ∀ s : List Int, s.length ≤ 63 → (∀ z ∈ s, Builtin.Int.intBits z ≤ 1048576) → K34.run s = .rt (.z (.bl true)) []) : PySem.Challenge.rw_risingfits_k34_whole_falls_of_rows.Holds := by
  w_on; o_law
  refine HandSHeadRun.head_any (r := OpenLaw.row PySem.Challenge.rw_risingfits_k34_whole_falls_of_rows) (q := view (OpenLaw.row PySem.Challenge.rw_risingfits_k34_whole_falls_of_rows).prog [64]) (H := K34.hk) (ob := K34.ob) (M := 4000) (loose := K34.names) (d := HandSHeadRun.topDef (OpenLaw.row PySem.Challenge.rw_risingfits_k34_whole_falls_of_rows).prog 64) (kwd := []) K34.ob_eq
    (by kernel_rfl) (fun s => by kernel_rfl) K34.headrun (by kernel_rfl) (by kernel_rfl) (by kernel_rfl) (by rfl) (by first | assumption | decide +kernel) (by decide +kernel) ⟨rfl, rfl, rfl, rfl, rfl, by decide +kernel⟩ ?hw ?hc
  case hw => w_witness2
  case hc =>
    refine RF.walkG (l := PySem.Challenge.rw_risingfits_k34_whole_falls_of_rows) (n := 63) (k := 20 + 3) (x := "script") rfl (by decide) (by kernel_rfl) ⟨rfl, by decide, by decide⟩ ?F
    intro w mg fa h Y G hmg0
    obtain ⟨⟨K, KX, c⟩, hst⟩ := Y
    have hmg : mg ("law" : PySem.Str) = some (.ref fa) := by
      have e : (HandSHeadRun.topDef (OpenLaw.row PySem.Challenge.rw_risingfits_k34_whole_falls_of_rows).prog 64).name = ("law" : PySem.Str) := by kernel_rfl
      rw [← e]
      exact hmg0
    exact K34.fitG KX hst G c hmg math
/-! K34p: heights of a row, in plain Lean. -/
end
namespace K34
open RF
def mx (xs : List Int) : Int := xs.foldl max 0
theorem foldl_max (xs : List Int) : ∀ a : Int, (∀ x ∈ xs, x ≤ xs.foldl max a) ∧ a ≤ xs.foldl max a ∧ (xs.foldl max a = a ∨ xs.foldl max a ∈ xs) := by
  induction xs with
  | nil => intro a; simp
  | cons x xs ih =>
    intro a
    obtain ⟨h1, h2, h3⟩ := ih (max a x)
    simp only [List.foldl_cons]
    refine ⟨fun y hy => ?_, by omega, ?_⟩
    · rcases List.mem_cons.mp hy with rfl | hy
      · omega
      · exact h1 y hy
    · rcases h3 with h3 | h3
      · rw [h3]
        by_cases q : a ≤ x
        · right; rw [show max a x = x by omega]; exact List.mem_cons_self
        · left; omega
      · right; exact List.mem_cons_of_mem _ h3
theorem mx_le {xs : List Int} {x : Int} (h : x ∈ xs) : x ≤ mx xs := (foldl_max xs 0).1 x h
theorem mx_pos (xs : List Int) : 0 ≤ mx xs := (foldl_max xs 0).2.1
theorem mx_mem (xs : List Int) : mx xs = 0 ∨ mx xs ∈ xs := (foldl_max xs 0).2.2
theorem max_app (xs : List Int) : (xs ++ [0]).max? = some (mx xs) := by
  rw [List.max?_eq_some_iff]
  refine ⟨?_, fun b hb => ?_⟩
  · rcases mx_mem xs with h | h
    · rw [h]; simp
    · exact List.mem_append_left _ h
  · rcases List.mem_append.mp hb with h | h
    · exact mx_le h
    · rw [List.mem_singleton.mp h]; exact mx_pos xs
theorem max_cons (xs : List Int) : (0 :: xs).max? = some (mx xs) := by
  rw [List.max?_eq_some_iff]
  refine ⟨?_, fun b hb => ?_⟩
  · rcases mx_mem xs with h | h
    · rw [h]; simp
    · exact List.mem_cons_of_mem _ h
  · rcases List.mem_cons.mp hb with h | h
    · rw [h]; exact mx_pos xs
    · exact mx_le h
/-- a list of positive numbers: the greatest -/
theorem max_pos {xs : List Int} (h : xs ≠ []) (hp : ∀ x ∈ xs, 0 < x) : xs.max? = some (mx xs) := by
  rw [List.max?_eq_some_iff]
  refine ⟨?_, fun b hb => mx_le hb⟩
  rcases mx_mem xs with q | q
  · cases xs with
    | nil => exact absurd rfl h
    | cons x xs =>
      have := hp x List.mem_cons_self
      have := mx_le (xs := x :: xs) List.mem_cons_self
      omega
  · exact q
section
variable (N W : List Int)
def hts : Nat → List Int
  | 0 => []
  | k + 1 => hts k ++ [nth W k + mx (((List.range k).filter fun p => decide (nth N p ≤ nth N k)).map (nth (hts k)))]
theorem hts_len : ∀ k, (hts N W k).length = k
  | 0 => rfl
  | k + 1 => by simp [hts, hts_len k]
theorem nth_app {xs : List Int} {j : Nat} {ys : List Int} (h : j < xs.length) : nth (xs ++ ys) j = nth xs j := by
  simp [nth, List.getD, List.getElem?_append_left h]
theorem nth_last {xs : List Int} {y : Int} : nth (xs ++ [y]) xs.length = y := by
  simp [nth, List.getD]
theorem hts_pre : ∀ {k m j : Nat}, j < k → k ≤ m → nth (hts N W m) j = nth (hts N W k) j := by
  intro k m j hj hk
  induction m with
  | zero => omega
  | succ m ih =>
    by_cases e : k = m + 1
    · rw [e]
    · rw [hts, nth_app (by rw [hts_len]; omega)]
      exact ih (by omega)
/-- the height of place j -/
def ht (j : Nat) : Int := nth (hts N W (j + 1)) j
theorem ht_of {m j : Nat} (h : j < m) : nth (hts N W m) j = ht N W j := hts_pre N W (Nat.lt_succ_self j) h
theorem ht_eq (j : Nat) : ht N W j = nth W j + mx (((List.range j).filter fun p => decide (nth N p ≤ nth N j)).map (ht N W)) := by
  unfold ht
  rw [hts]
  have e := nth_last (xs := hts N W j) (y := nth W j + mx (((List.range j).filter fun p => decide (nth N p ≤ nth N j)).map (nth (hts N W j))))
  rw [hts_len] at e
  rw [e]
  congr 2
  apply List.map_congr_left
  intro p hp
  have := List.mem_range.mp (List.mem_filter.mp hp).1
  exact ht_of N W this
theorem hts_map (m : Nat) : hts N W m = (List.range m).map (ht N W) := by
  apply List.ext_getElem
  · simp [hts_len]
  · intro j h1 h2
    simp only [List.getElem_map, List.getElem_range]
    rw [hts_len] at h1
    have := ht_of N W h1
    simp [nth, List.getD, hts_len, h1] at this
    exact this
theorem ht_self (j : Nat) : nth W j ≤ ht N W j := by
  rw [ht_eq]
  have := mx_pos (((List.range j).filter fun p => decide (nth N p ≤ nth N j)).map (ht N W))
  omega
theorem ht_le {p j : Nat} (h : p < j) (hn : nth N p ≤ nth N j) : ht N W p + nth W j ≤ ht N W j := by
  rw [ht_eq N W j]
  have : ht N W p ∈ ((List.range j).filter fun p => decide (nth N p ≤ nth N j)).map (ht N W) := List.mem_map.mpr ⟨p, List.mem_filter.mpr ⟨List.mem_range.mpr h, by simpa using hn⟩, rfl⟩
  have := mx_le this
  omega
theorem ht_or (j : Nat) : ht N W j = nth W j ∨ ∃ p, p < j ∧ nth N p ≤ nth N j ∧ ht N W j = nth W j + ht N W p := by
  have e := ht_eq N W j
  rcases mx_mem (((List.range j).filter fun p => decide (nth N p ≤ nth N j)).map (ht N W)) with h | h
  · left; rw [e, h]; omega
  · obtain ⟨p, hp, e2⟩ := List.mem_map.mp h
    obtain ⟨h1, h2⟩ := List.mem_filter.mp hp
    exact .inr ⟨p, List.mem_range.mp h1, by simpa using h2, by rw [e2]; exact e⟩
/-! ### crossed -/
theorem cross_fall {c : Int} {i j : Nat} (h : i < j) (hi : c ≤ ht N W i) (hj : ht N W j - nth W j < c) : nth N j < nth N i := by
  apply Classical.byContradiction
  intro q
  have := ht_le N W h (by omega)
  omega
theorem cross_some {c : Int} (hc : 0 < c) : ∀ (m j : Nat), j ≤ m → c ≤ ht N W j → ∃ i, i ≤ j ∧ ht N W i - nth W i < c ∧ c ≤ ht N W i
  | 0, j, hj, h => by
    obtain rfl : j = 0 := by omega
    refine ⟨0, Nat.le_refl _, ?_, h⟩
    rcases ht_or N W 0 with q | ⟨p, hp, _⟩
    · omega
    · omega
  | m + 1, j, hj, h => by
    rcases ht_or N W j with q | ⟨p, hp, _, q⟩
    · exact ⟨j, Nat.le_refl _, by omega, h⟩
    · by_cases z : ht N W j - nth W j < c
      · exact ⟨j, Nat.le_refl _, z, h⟩
      · obtain ⟨i, h1, h2, h3⟩ := cross_some hc m p (by omega) (by omega)
        exact ⟨i, by omega, h2, h3⟩
/-! ### lots -/
def sumW (lot : List Nat) : Int := (lot.map (nth W)).sum
def okL (k : Nat) (lot : List Nat) : Bool := match lot.getLast? with
  | none => true
  | some l => decide (nth N l ≤ nth N k)
def lots : Nat → List (List Nat)
  | 0 => [[]]
  | k + 1 => lots k ++ ((lots k).filter (okL N k)).map (· ++ [k])
/-- what a lot is -/
structure Lot (k : Nat) (lot : List Nat) : Prop where
  up : lot.Pairwise fun i j => i < j ∧ nth N i ≤ nth N j
  lt : ∀ i ∈ lot, i < k
  le : ∀ l, lot.getLast? = some l → sumW W lot ≤ ht N W l
theorem okL_all {k : Nat} {lot : List Nat} (h : lot.Pairwise fun i j => i < j ∧ nth N i ≤ nth N j) : okL N k lot = true ↔ ∀ i ∈ lot, nth N i ≤ nth N k := by
  unfold okL
  cases e : lot.getLast? with
  | none =>
    rw [List.getLast?_eq_none_iff.mp e]
    simp
  | some l =>
    obtain ⟨ys, rfl⟩ := List.getLast?_eq_some_iff.mp e
    simp only [decide_eq_true_eq]
    rw [List.pairwise_append] at h
    refine ⟨fun q i hi => ?_, fun q => q l (by simp)⟩
    rcases List.mem_append.mp hi with m | m
    · have := (h.2.2 i m l (by simp)).2
      omega
    · rw [List.mem_singleton.mp m]; exact q
theorem lots_ok : ∀ k, ∀ lot ∈ lots N k, Lot N W k lot
  | 0, lot, h => by
    obtain rfl : lot = [] := by simpa [lots] using h
    exact ⟨List.Pairwise.nil, fun _ m => (nomatch m), fun l e => by simp at e⟩
  | k + 1, lot, h => by
    rcases List.mem_append.mp h with m | m
    · have q := lots_ok k lot m
      exact ⟨q.up, fun i hi => Nat.lt_succ_of_lt (q.lt i hi), q.le⟩
    · obtain ⟨l0, h0, rfl⟩ := List.mem_map.mp m
      obtain ⟨h1, h2⟩ := List.mem_filter.mp h0
      have q := lots_ok k l0 h1
      have al := (okL_all N q.up).mp h2
      refine ⟨?_, fun i hi => ?_, fun l e => ?_⟩
      · rw [List.pairwise_append]
        refine ⟨q.up, List.pairwise_singleton _ _, fun i hi j hj => ?_⟩
        rw [List.mem_singleton.mp hj]
        exact ⟨q.lt i hi, al i hi⟩
      · rcases List.mem_append.mp hi with z | z
        · exact Nat.lt_succ_of_lt (q.lt i z)
        · rw [List.mem_singleton.mp z]; exact Nat.lt_succ_self k
      · obtain rfl : k = l := by simpa using e
        unfold sumW
        rw [List.map_append, List.sum_append]
        simp only [List.map_cons, List.map_nil, List.sum_cons, List.sum_nil]
        cases e2 : l0.getLast? with
        | none =>
          rw [List.getLast?_eq_none_iff.mp e2]
          have := ht_self N W k
          simp; omega
        | some p =>
          have h3 := q.le p e2
          have hm : p ∈ l0 := List.mem_of_getLast? e2
          have := ht_le N W (q.lt p hm) (al p hm)
          unfold sumW at h3
          omega
theorem lots_mono {k m : Nat} (h : k ≤ m) : ∀ lot ∈ lots N k, lot ∈ lots N m := by
  induction m with
  | zero => intro lot hl; obtain rfl : k = 0 := by omega
            exact hl
  | succ m ih =>
    intro lot hl
    by_cases e : k = m + 1
    · rw [← e]; exact hl
    · exact List.mem_append_left _ (ih (by omega) lot hl)
theorem lots_has : ∀ (m j : Nat), j ≤ m → ∃ lot ∈ lots N (j + 1), lot.getLast? = some j ∧ sumW W lot = ht N W j
  | m, j, hj => by
    rcases ht_or N W j with q | ⟨p, hp, hn, q⟩
    · refine ⟨[j], ?_, rfl, by simp [sumW, q]⟩
      have h0 : [] ∈ lots N j := lots_mono N (Nat.zero_le j) [] (by simp [lots])
      exact List.mem_append_right _ (List.mem_map.mpr ⟨[], List.mem_filter.mpr ⟨h0, rfl⟩, rfl⟩)
    · match m with
      | 0 => omega
      | m + 1 =>
        obtain ⟨l0, h1, h2, h3⟩ := lots_has m p (by omega)
        refine ⟨l0 ++ [j], List.mem_append_right _ (List.mem_map.mpr ⟨l0, List.mem_filter.mpr ⟨lots_mono N (show p + 1 ≤ j by omega) l0 h1, ?_⟩, rfl⟩), by simp, ?_⟩
        · unfold okL; rw [h2]; simpa using hn
        · unfold sumW at h3 ⊢
          rw [List.map_append, List.sum_append, h3, q]
          simp; omega
/-- the heaviest lot weighs the greatest height -/
theorem lots_max {n : Nat} (hn : 0 < n) (hw : ∀ j < n, 0 < nth W j) : ((lots N n).map (sumW W)).max? = some (mx ((List.range n).map (ht N W))) := by
  have hp : ∀ x ∈ (List.range n).map (ht N W), 0 < x := fun x hx => by
    obtain ⟨j, hj, rfl⟩ := List.mem_map.mp hx
    have := hw j (List.mem_range.mp hj)
    have := ht_self N W j
    omega
  have hm := (List.max?_eq_some_iff.mp (max_pos (xs := (List.range n).map (ht N W)) (by simp; omega) hp)).1
  rw [List.max?_eq_some_iff]
  refine ⟨?_, fun b hb => ?_⟩
  · obtain ⟨j, hj, e⟩ := List.mem_map.mp hm
    obtain ⟨lot, h1, _, h3⟩ := lots_has N W j j (Nat.le_refl _)
    exact List.mem_map.mpr ⟨lot, lots_mono N (List.mem_range.mp hj) lot h1, by rw [h3, e]⟩
  · obtain ⟨lot, h1, rfl⟩ := List.mem_map.mp hb
    have q := lots_ok N W n lot h1
    cases e : lot.getLast? with
    | none =>
      rw [List.getLast?_eq_none_iff.mp e]
      exact mx_pos _
    | some l =>
      have := q.le l e
      have : ht N W l ≤ mx ((List.range n).map (ht N W)) := mx_le (List.mem_map.mpr ⟨l, List.mem_range.mpr (q.lt l (List.mem_of_getLast? e)), rfl⟩)
      omega
/-! ### the kept places -/
/-- the first place behind which place goes on -/
def prv (p : Nat) : List Nat := (List.range p).filter fun a => decide (ht N W a = ht N W p - nth W p) && decide (nth N a ≤ nth N p)
theorem prv_some {p : Nat} (h : nth W p < ht N W p) : ∃ a r, prv N W p = a :: r ∧ a < p ∧ ht N W a = ht N W p - nth W p ∧ nth N a ≤ nth N p := by
  have ne : ∃ a, a ∈ prv N W p := by
    rcases ht_or N W p with q | ⟨a, h1, h2, h3⟩
    · omega
    · exact ⟨a, List.mem_filter.mpr ⟨List.mem_range.mpr h1, by simp [h2]; omega⟩⟩
  cases e : prv N W p with
  | nil => rw [e] at ne; obtain ⟨a, z⟩ := ne; cases z
  | cons a r =>
    have m : a ∈ prv N W p := by rw [e]; exact List.mem_cons_self
    obtain ⟨m1, m2⟩ := List.mem_filter.mp m
    simp only [Bool.and_eq_true, decide_eq_true_eq] at m2
    exact ⟨a, r, rfl, List.mem_range.mp m1, m2.1, m2.2⟩
/-- what the loop has found: places going down -/
structure Kp (p : Nat) (found : List Nat) (total : Int) : Prop where
  last : found.getLast? = some p
  down : found.Pairwise fun i j => j < i ∧ nth N j ≤ nth N i
  sum : sumW W found + ht N W p - nth W p = total
theorem Kp.step {p a : Nat} {found : List Nat} {total : Int} (k : Kp N W p found total) (h1 : a < p) (h2 : ht N W a = ht N W p - nth W p) (h3 : nth N a ≤ nth N p) : Kp N W a (found ++ [a]) total := by
  refine ⟨by simp, ?_, ?_⟩
  · rw [List.pairwise_append]
    refine ⟨k.down, List.pairwise_singleton _ _, fun i hi j hj => ?_⟩
    rw [List.mem_singleton.mp hj]
    obtain ⟨ys, e⟩ := List.getLast?_eq_some_iff.mp k.last
    rw [e] at hi
    rcases List.mem_append.mp hi with m | m
    · have d := k.down
      rw [e, List.pairwise_append] at d
      have := d.2.2 i m p (by simp)
      omega
    · rw [List.mem_singleton.mp m]; exact ⟨h1, h3⟩
  · have := k.sum
    unfold sumW at *
    rw [List.map_append, List.sum_append]
    simp only [List.map_cons, List.map_nil, List.sum_cons, List.sum_nil]
    omega
end
end K34
/-! K34m: the defs of the law, folded (printed by genm.py). -/
namespace K34
open RF
abbrev Wf : Nat := 5000
def g (n f : Nat) (os : List O) : CR := RF.G T Wf n f os
def cc (n : Nat) : Cfg := ⟨RF.G T Wf n, sigT T⟩
theorem cc_call (n f : Nat) (os : List O) : (cc n).call f os = g n f os := rfl
theorem at_is_whole (n : Nat) (os : List O) : g (n + 1) f_is_whole os = runF (cc n) Wf d_is_whole os := rfl
theorem sg_is_whole (n : Nat) : (cc n).sig f_is_whole = [false] := rfl
theorem at_is_count (n : Nat) (os : List O) : g (n + 1) f_is_count os = runF (cc n) Wf d_is_count os := rfl
theorem sg_is_count (n : Nat) : (cc n).sig f_is_count = [false] := rfl
theorem at_is_below (n : Nat) (os : List O) : g (n + 1) f_is_below os = runF (cc n) Wf d_is_below os := rfl
theorem sg_is_below (n : Nat) : (cc n).sig f_is_below = [false, false] := rfl
theorem at_is_number (n : Nat) (os : List O) : g (n + 1) f_is_number os = runF (cc n) Wf d_is_number os := rfl
theorem sg_is_number (n : Nat) : (cc n).sig f_is_number = [false] := rfl
theorem at_are_numbers_of (n : Nat) (os : List O) : g (n + 1) f_are_numbers_of os = runF (cc n) Wf d_are_numbers_of os := rfl
theorem sg_are_numbers_of (n : Nat) : (cc n).sig f_are_numbers_of = [false, false] := rfl
theorem at_are_weights_of (n : Nat) (os : List O) : g (n + 1) f_are_weights_of os = runF (cc n) Wf d_are_weights_of os := rfl
theorem sg_are_weights_of (n : Nat) : (cc n).sig f_are_weights_of = [false, false] := rfl
theorem at_check_row (n : Nat) (os : List O) : g (n + 1) f_check_row os = runF (cc n) Wf d_check_row os := rfl
theorem sg_check_row (n : Nat) : (cc n).sig f_check_row = [false] := rfl
theorem at_check_numbers (n : Nat) (os : List O) : g (n + 1) f_check_numbers os = runF (cc n) Wf d_check_numbers os := rfl
theorem sg_check_numbers (n : Nat) : (cc n).sig f_check_numbers = [false] := rfl
theorem at_check_weights (n : Nat) (os : List O) : g (n + 1) f_check_weights os = runF (cc n) Wf d_check_weights os := rfl
theorem sg_check_weights (n : Nat) : (cc n).sig f_check_weights = [false, false] := rfl
theorem at_is_pair (n : Nat) (os : List O) : g (n + 1) f_is_pair os = runF (cc n) Wf d_is_pair os := rfl
theorem sg_is_pair (n : Nat) : (cc n).sig f_is_pair = [false, false] := rfl
theorem at_reach_of (n : Nat) (os : List O) : g (n + 1) f_reach_of os = runF (cc n) Wf d_reach_of os := rfl
theorem sg_reach_of (n : Nat) : (cc n).sig f_reach_of = [false, false] := rfl
theorem at_is_order_of (n : Nat) (os : List O) : g (n + 1) f_is_order_of os = runF (cc n) Wf d_is_order_of os := rfl
theorem sg_is_order_of (n : Nat) : (cc n).sig f_is_order_of = [false, false] := rfl
theorem at_check_order (n : Nat) (os : List O) : g (n + 1) f_check_order os = runF (cc n) Wf d_check_order os := rfl
theorem sg_check_order (n : Nat) : (cc n).sig f_check_order = [false, false] := rfl
theorem at_all_pairs_of (n : Nat) (os : List O) : g (n + 1) f_all_pairs_of os = runF (cc n) Wf d_all_pairs_of os := rfl
theorem sg_all_pairs_of (n : Nat) : (cc n).sig f_all_pairs_of = [false, false] := rfl
theorem at_check_weighed (n : Nat) (os : List O) : g (n + 1) f_check_weighed os = runF (cc n) Wf d_check_weighed os := rfl
theorem sg_check_weighed (n : Nat) : (cc n).sig f_check_weighed = [false, false] := rfl
theorem at_check_ordered (n : Nat) (os : List O) : g (n + 1) f_check_ordered os = runF (cc n) Wf d_check_ordered os := rfl
theorem sg_check_ordered (n : Nat) : (cc n).sig f_check_ordered = [false, false, false] := rfl
theorem at_falls_of (n : Nat) (os : List O) : g (n + 1) f_falls_of os = runF (cc n) Wf d_falls_of os := rfl
theorem sg_falls_of (n : Nat) : (cc n).sig f_falls_of = [false, false] := rfl
theorem at_keeps (n : Nat) (os : List O) : g (n + 1) f_keeps os = runF (cc n) Wf d_keeps os := rfl
theorem sg_keeps (n : Nat) : (cc n).sig f_keeps = [false, false] := rfl
theorem at_weight_of (n : Nat) (os : List O) : g (n + 1) f_weight_of os = runF (cc n) Wf d_weight_of os := rfl
theorem sg_weight_of (n : Nat) : (cc n).sig f_weight_of = [false, false] := rfl
theorem at_heaviest_of (n : Nat) (os : List O) : g (n + 1) f_heaviest_of os = runF (cc n) Wf d_heaviest_of os := rfl
theorem sg_heaviest_of (n : Nat) : (cc n).sig f_heaviest_of = [false, false, false] := rfl
theorem at_fewest_changed (n : Nat) (os : List O) : g (n + 1) f_fewest_changed os = runF (cc n) Wf d_fewest_changed os := rfl
theorem sg_fewest_changed (n : Nat) : (cc n).sig f_fewest_changed = [false, false, false] := rfl
theorem at_heights_of_row (n : Nat) (os : List O) : g (n + 1) f_heights_of_row os = runF (cc n) Wf d_heights_of_row os := rfl
theorem sg_heights_of_row (n : Nat) : (cc n).sig f_heights_of_row = [false, false] := rfl
theorem at_row_kept (n : Nat) (os : List O) : g (n + 1) f_row_kept os = runF (cc n) Wf d_row_kept os := rfl
theorem sg_row_kept (n : Nat) : (cc n).sig f_row_kept = [false, false] := rfl
theorem at_row_heights (n : Nat) (os : List O) : g (n + 1) f_row_heights os = runF (cc n) Wf d_row_heights os := rfl
theorem sg_row_heights (n : Nat) : (cc n).sig f_row_heights = [false, false] := rfl
theorem at_row_changed (n : Nat) (os : List O) : g (n + 1) f_row_changed os = runF (cc n) Wf d_row_changed os := rfl
theorem sg_row_changed (n : Nat) : (cc n).sig f_row_changed = [false, false] := rfl
theorem at_fall_count (n : Nat) (os : List O) : g (n + 1) f_fall_count os = runF (cc n) Wf d_fall_count os := rfl
theorem sg_fall_count (n : Nat) : (cc n).sig f_fall_count = [false] := rfl
theorem at__law_hash (n : Nat) (os : List O) : g (n + 1) f__law_hash os = runF (cc n) Wf d__law_hash os := rfl
theorem sg__law_hash (n : Nat) : (cc n).sig f__law_hash = [false, false] := rfl
theorem at__law_random (n : Nat) (os : List O) : g (n + 1) f__law_random os = runF (cc n) Wf d__law_random os := rfl
theorem sg__law_random (n : Nat) : (cc n).sig f__law_random = [true, false] := rfl
theorem at__law_cell (n : Nat) (os : List O) : g (n + 1) f__law_cell os = runF (cc n) Wf d__law_cell os := rfl
theorem sg__law_cell (n : Nat) : (cc n).sig f__law_cell = [false, false] := rfl
theorem at__law_generator (n : Nat) (os : List O) : g (n + 1) f__law_generator os = runF (cc n) Wf d__law_generator os := rfl
theorem sg__law_generator (n : Nat) : (cc n).sig f__law_generator = [false, false] := rfl
theorem at__law_pick (n : Nat) (os : List O) : g (n + 1) f__law_pick os = runF (cc n) Wf d__law_pick os := rfl
theorem sg__law_pick (n : Nat) : (cc n).sig f__law_pick = [true, false] := rfl
theorem at__law_same (n : Nat) (os : List O) : g (n + 1) f__law_same os = runF (cc n) Wf d__law_same os := rfl
theorem sg__law_same (n : Nat) : (cc n).sig f__law_same = [false, false] := rfl
theorem at__law_is_whole (n : Nat) (os : List O) : g (n + 1) f__law_is_whole os = runF (cc n) Wf d__law_is_whole os := rfl
theorem sg__law_is_whole (n : Nat) : (cc n).sig f__law_is_whole = [false] := rfl
theorem at__law_is_below (n : Nat) (os : List O) : g (n + 1) f__law_is_below os = runF (cc n) Wf d__law_is_below os := rfl
theorem sg__law_is_below (n : Nat) : (cc n).sig f__law_is_below = [false, false] := rfl
theorem at__law_copied (n : Nat) (os : List O) : g (n + 1) f__law_copied os = runF (cc n) Wf d__law_copied os := rfl
theorem sg__law_copied (n : Nat) : (cc n).sig f__law_copied = [false] := rfl
theorem at__law_call (n : Nat) (os : List O) : g (n + 1) f__law_call os = runF (cc n) Wf d__law_call os := rfl
theorem sg__law_call (n : Nat) : (cc n).sig f__law_call = [false, false] := rfl
theorem at__law_mark (n : Nat) (os : List O) : g (n + 1) f__law_mark os = runF (cc n) Wf d__law_mark os := rfl
theorem sg__law_mark (n : Nat) : (cc n).sig f__law_mark = [false, false] := rfl
theorem at__law_raised (n : Nat) (os : List O) : g (n + 1) f__law_raised os = runF (cc n) Wf d__law_raised os := rfl
theorem sg__law_raised (n : Nat) : (cc n).sig f__law_raised = [false, false, false, false] := rfl
theorem at__law_refused (n : Nat) (os : List O) : g (n + 1) f__law_refused os = runF (cc n) Wf d__law_refused os := rfl
theorem sg__law_refused (n : Nat) : (cc n).sig f__law_refused = [false, false, false, false, false] := rfl
theorem at__law_all_refused (n : Nat) (os : List O) : g (n + 1) f__law_all_refused os = runF (cc n) Wf d__law_all_refused os := rfl
theorem sg__law_all_refused (n : Nat) : (cc n).sig f__law_all_refused = [false, false, false, false] := rfl
theorem at__law_is_lot (n : Nat) (os : List O) : g (n + 1) f__law_is_lot os = runF (cc n) Wf d__law_is_lot os := rfl
theorem sg__law_is_lot (n : Nat) : (cc n).sig f__law_is_lot = [false, false] := rfl
theorem at__law_drawn_numbers (n : Nat) (os : List O) : g (n + 1) f__law_drawn_numbers os = runF (cc n) Wf d__law_drawn_numbers os := rfl
theorem sg__law_drawn_numbers (n : Nat) : (cc n).sig f__law_drawn_numbers = [true, false] := rfl
theorem at__law_drawn_weights (n : Nat) (os : List O) : g (n + 1) f__law_drawn_weights os = runF (cc n) Wf d__law_drawn_weights os := rfl
theorem sg__law_drawn_weights (n : Nat) : (cc n).sig f__law_drawn_weights = [true, false] := rfl
theorem at__law_wrong_numbers (n : Nat) (os : List O) : g (n + 1) f__law_wrong_numbers os = runF (cc n) Wf d__law_wrong_numbers os := rfl
theorem sg__law_wrong_numbers (n : Nat) : (cc n).sig f__law_wrong_numbers = [false, false] := rfl
theorem at__law_wrong_weights (n : Nat) (os : List O) : g (n + 1) f__law_wrong_weights os = runF (cc n) Wf d__law_wrong_weights os := rfl
theorem sg__law_wrong_weights (n : Nat) : (cc n).sig f__law_wrong_weights = [false] := rfl
theorem at__law_is_kind (n : Nat) (os : List O) : g (n + 1) f__law_is_kind os = runF (cc n) Wf d__law_is_kind os := rfl
theorem sg__law_is_kind (n : Nat) : (cc n).sig f__law_is_kind = [false, false] := rfl
theorem at__law_heights (n : Nat) (os : List O) : g (n + 1) f__law_heights os = runF (cc n) Wf d__law_heights os := rfl
theorem sg__law_heights (n : Nat) : (cc n).sig f__law_heights = [false, false] := rfl
theorem at__law_case_right (n : Nat) (os : List O) : g (n + 1) f__law_case_right os = runF (cc n) Wf d__law_case_right os := rfl
theorem sg__law_case_right (n : Nat) : (cc n).sig f__law_case_right = [false, false] := rfl
theorem at_law (n : Nat) (os : List O) : g (n + 1) f_law os = runF (cc n) Wf d_law os := rfl
theorem sg_law (n : Nat) : (cc n).sig f_law = [false] := rfl
end K34
/-! K34n: what is a row, what are weights; the same. -/
namespace K34
open RF
/-! ### whole numbers -/
def isW : D → Bool
  | .int _ => true
  | _ => false
def isN : D → Bool
  | .int i => decide (-1000000000 ≤ i) && decide (i ≤ 1000000000)
  | _ => false
theorem gd_cases {n : Nat} {d : D} (h : Gd n d) : d = .non ∨ (∃ b, d = .bl b) ∨ (∃ i, d = .int i) ∨ (∃ x, d = .str x) ∨ (∃ ds, d = .lst ds) ∨ ∃ ds, d = .tup ds := by
  cases d with
  | non => exact .inl rfl
  | bl b => exact .inr (.inl ⟨b, rfl⟩)
  | int i => exact .inr (.inr (.inl ⟨i, rfl⟩))
  | str x => exact .inr (.inr (.inr (.inl ⟨x, rfl⟩)))
  | lst ds => exact .inr (.inr (.inr (.inr (.inl ⟨ds, rfl⟩))))
  | tup ds => exact .inr (.inr (.inr (.inr (.inr ⟨ds, rfl⟩))))
  | _ => cases n <;> simp [Gd] at h
theorem whole_eq (k n : Nat) {d : D} (h : Gd n d) : g (k + 1) f_is_whole [.z d] = ret (zb (isW d)) := by
  rcases gd_cases h with rfl | ⟨b, rfl⟩ | ⟨i, rfl⟩ | ⟨x, rfl⟩ | ⟨ds, rfl⟩ | ⟨ds, rfl⟩ <;> rfl
theorem whole2_eq (k n : Nat) {d : D} (h : Gd n d) : g (k + 1) f__law_is_whole [.z d] = ret (zb (isW d)) := by
  rcases gd_cases h with rfl | ⟨b, rfl⟩ | ⟨i, rfl⟩ | ⟨x, rfl⟩ | ⟨ds, rfl⟩ | ⟨ds, rfl⟩ <;> rfl
theorem isW_cases (d : D) : isW d = false ∨ ∃ i, d = .int i := by cases d <;> simp [isW]
theorem number_eq (k n : Nat) {d : D} (h : Gd n d) : g (k + 2) f_is_number [.z d] = ret (zb (isN d)) := by
  have w := whole_eq k n h
  rw [at_is_number]
  rcases isW_cases d with e | ⟨i, rfl⟩
  · rw [e] at w
    have e2 : isN d = false := by cases d <;> simp_all [isW, isN]
    simp [runF, d_is_number, evalSs, evalS, evalE, evalAnd, evalArgs, Out.ofR, viewE, getE, RF.R.bind, doCall, sg_is_whole, cc_call, w, Ar.fetch, Ar.slots, Ar.isRef, back0, O.toD, RF.finish, outs?, ofOpt, O.clean, D.lf, e2]
  · simp only [isW] at w
    by_cases h1 : -1000000000 ≤ i
    · simp [runF, d_is_number, evalSs, evalS, evalE, evalAnd, evalArgs, Out.ofR, viewE, getE, RF.R.bind, doCall, sg_is_whole, cc_call, w, Ar.fetch, Ar.slots, Ar.isRef, back0, O.toD, RF.finish, outs?, ofOpt, O.clean, D.lf, isN, cmpop, h1]
    · simp [runF, d_is_number, evalSs, evalS, evalE, evalAnd, evalArgs, Out.ofR, viewE, getE, RF.R.bind, doCall, sg_is_whole, cc_call, w, Ar.fetch, Ar.slots, Ar.isRef, back0, O.toD, RF.finish, outs?, ofOpt, O.clean, D.lf, isN, cmpop, h1]
/-! ### rows -/
def areN (m : Int) : D → Bool
  | .lst ds => decide (1 ≤ (ds.length : Int)) && decide ((ds.length : Int) ≤ m) && ds.all isN
  | _ => false
abbrev cxN : RF.X := .comp (.v 2) (.nm 2) (.seq (.v 0)) (.some (.not (.call true f_is_number (.cons (.v 2) .nil)))) [2]
theorem cxN_eq (k n : Nat) {ds : List D} (u : Option O) (h : Gd (n + 1) (.lst ds)) : evalE (cc (k + 2)) cxN [some (.z (.lst ds)), u, none] = .ok (.l ((ds.filter fun x => !isN x).map .z)) [some (.z (.lst ds)), u, none] := by
  simp only [Gd] at h
  have q := ev_compR (C := cc (k + 2)) (elt := .v 2) (t := .nm 2) (it := .seq (.v 0)) (cd := .some (.not (.call true f_is_number (.cons (.v 2) .nil)))) (own := [2]) (env := [some (.z (.lst ds)), u, none]) (env1 := [some (.z (.lst ds)), u, none]) ds id (fun x => !isN x) .z
    (by simp [evalIt, evalE, getE, RF.R.bind, O.toD]) (fun x hx => ⟨[some (.z (.lst ds)), u, some (.z x)], by simp [tgE, wipeE], ?_, fun _ => by simp [evalE, getE], by simp [wipeE]⟩) (by omega) (by simp [restore, wipeE])
  · exact q
  · have e := number_eq k n (h.2 x hx)
    simp [evalCond, evalE, evalArgs, getE, RF.R.bind, doCall, sg_is_number, cc_call, e, Ar.fetch, Ar.slots, Ar.isRef, back0, O.toD, O.clean, D.lf]
theorem filter_nil {p : D → Bool} {ds : List D} : (ds.filter fun x => !p x).isEmpty = ds.all p := by
  induction ds with
  | nil => rfl
  | cons d ds ih => cases e : p d <;> simp [List.filter_cons, e, ih]
theorem areN_eq (k n : Nat) (m : Int) {d : D} (h : Gd n d) (hn : n ≤ 50) : g (k + 3) f_are_numbers_of [.z d, zi m] = ret (zb (areN m d)) := by
  rw [at_are_numbers_of]
  by_cases hl : ∃ ds, d = .lst ds
  · obtain ⟨ds, rfl⟩ := hl
    cases n with
    | zero => simp [Gd] at h
    | succ n =>
      have c := cxN_eq k n (some (zi m)) h
      have hg := h
      simp only [Gd] at h
      have ok : ∀ d ∈ ds.filter (fun x => !isN x), d.ok 59 = true := fun d hd => ok_mono (h.2 d (List.mem_filter.mp hd).1).ok (by omega)
      have s1 : evalS (cc (k + 2)) Wf (.ite (.or (.cons (.not (.isi .list (.v 0))) (.cons (.not (.cmp2 .le .le (.n 1) (.blt .len (.cons (.v 0) .nil)) (.v 1))) .nil))) (.cons (.ret (.tt false)) .nil) .nil) [some (.z (.lst ds)), some (zi m), none] =
          if (decide (1 ≤ (ds.length : Int)) && decide ((ds.length : Int) ≤ m)) = true then .nx [some (.z (.lst ds)), some (zi m), none] else .rt (zb false) [some (.z (.lst ds)), some (zi m), none] := by
        by_cases h1 : 1 ≤ (ds.length : Int)
        · by_cases h2 : (ds.length : Int) ≤ m
          · simp [evalS, evalSs, evalE, evalOr, evalVs, bltV, isiV, Out.ofR, viewE, getE, RF.R.bind, O.toD, ofOpt, cmpop, h1, h2]
          · simp [evalS, evalSs, evalE, evalOr, evalVs, bltV, isiV, Out.ofR, viewE, getE, RF.R.bind, O.toD, ofOpt, cmpop, h1, h2]
        · simp [evalS, evalSs, evalE, evalOr, evalVs, bltV, isiV, Out.ofR, viewE, getE, RF.R.bind, O.toD, ofOpt, cmpop, h1]
      rw [run_eq (h := rfl)]
      show RF.finish [false, false] (evalSs (cc (k + 2)) Wf (.cons _ (.cons (.ret (.cmp .eq cxN (.lst .nil))) .nil)) [some (.z (.lst ds)), some (zi m), none]) = _
      rw [evalSs, s1]
      cases h1 : (decide (1 ≤ (ds.length : Int)) && decide ((ds.length : Int) ≤ m)) with
      | false =>
        simp only [Bool.false_eq_true, if_false]
        simp [RF.finish, outs?, areN, h1]
      | true =>
        simp only [if_true]
        rw [nxr (ret_ok (fun i z => by cases z) (eq_nil_ok (fun i z => by cases z) c ok)), filter_nil]
        simp [RF.finish, outs?, areN, h1]
  · have e : areN m d = false := by cases d <;> first | rfl | exact absurd ⟨_, rfl⟩ hl
    rw [e]
    rcases gd_cases h with rfl | ⟨b, rfl⟩ | ⟨i, rfl⟩ | ⟨x, rfl⟩ | ⟨ds, rfl⟩ | ⟨ds, rfl⟩ <;> first | exact absurd ⟨_, rfl⟩ hl | rfl
end K34
/-! K34o: weights, checks, the same. -/
namespace K34
open RF
/-! ### weights -/
def isWt : D → Bool
  | .int i => decide (1 ≤ i) && decide (i ≤ 1000)
  | _ => false
def areW (m : Int) : D → Bool
  | .lst ds => decide ((ds.length : Int) = m) && ds.all isWt
  | _ => false
theorem count_eq (k n : Nat) {d : D} (h : Gd n d) : ∃ b, g (k + 2) f_is_count [.z d] = ret (zb b) ∧ (isWt d = true → b = true) ∧ (b = true → ∃ i, d = .int i) := by
  have w := whole_eq k n h
  rw [at_is_count]
  rcases isW_cases d with e | ⟨i, rfl⟩
  · rw [e] at w
    refine ⟨false, ?_, fun z => ?_, fun z => by cases z⟩
    · simp [runF, d_is_count, evalSs, evalS, evalE, evalAnd, evalArgs, Out.ofR, viewE, getE, RF.R.bind, doCall, sg_is_whole, cc_call, w, Ar.fetch, Ar.slots, Ar.isRef, back0, O.toD, RF.finish, outs?, ofOpt, O.clean, D.lf]
    · cases d <;> simp_all [isW, isWt]
  · simp only [isW] at w
    refine ⟨decide (0 ≤ i), ?_, fun z => ?_, fun _ => ⟨i, rfl⟩⟩
    · simp [runF, d_is_count, evalSs, evalS, evalE, evalAnd, evalArgs, Out.ofR, viewE, getE, RF.R.bind, doCall, sg_is_whole, cc_call, w, Ar.fetch, Ar.slots, Ar.isRef, back0, O.toD, RF.finish, outs?, ofOpt, O.clean, D.lf, cmpop]
    · simp only [isWt, Bool.and_eq_true, decide_eq_true_eq] at z
      simp; omega
abbrev cdW : RF.X := .or (.cons (.not (.call true f_is_count (.cons (.v 2) .nil))) (.cons (.not (.cmp2 .le .le (.n 1) (.v 2) (.gk k_MOST_WEIGHT 1000))) .nil))
abbrev cxW : RF.X := .comp (.v 2) (.nm 2) (.seq (.v 1)) (.some cdW) [2]
theorem cdW_eq (k n : Nat) {d x : D} {u : Option O} (h : Gd n x) : evalE (cc (k + 2)) cdW [u, some (.z d), some (.z x)] = .ok (zb (!isWt x)) [u, some (.z d), some (.z x)] := by
  obtain ⟨b, e, h1, h2⟩ := count_eq k n h
  cases b with
  | false =>
    have e2 : isWt x = false := by cases q : isWt x with
      | false => rfl
      | true => cases h1 q
    simp [cdW, evalE, evalOr, evalArgs, getE, RF.R.bind, doCall, sg_is_count, cc_call, e, Ar.fetch, Ar.slots, Ar.isRef, back0, O.toD, O.clean, D.lf, e2]
  | true =>
    obtain ⟨i, rfl⟩ := h2 rfl
    by_cases h3 : 1 ≤ i
    · simp [cdW, evalE, evalOr, evalArgs, viewE, getE, RF.R.bind, doCall, sg_is_count, cc_call, e, Ar.fetch, Ar.slots, Ar.isRef, back0, O.toD, O.clean, D.lf, cmpop, ofOpt, isWt, h3]
    · simp [cdW, evalE, evalOr, evalArgs, viewE, getE, RF.R.bind, doCall, sg_is_count, cc_call, e, Ar.fetch, Ar.slots, Ar.isRef, back0, O.toD, O.clean, D.lf, cmpop, ofOpt, isWt, h3]
theorem cxW_eq (k n : Nat) {ds : List D} (u : Option O) (h : Gd (n + 1) (.lst ds)) : evalE (cc (k + 2)) cxW [u, some (.z (.lst ds)), none] = .ok (.l ((ds.filter fun x => !isWt x).map .z)) [u, some (.z (.lst ds)), none] := by
  simp only [Gd] at h
  exact ev_compR (env1 := [u, some (.z (.lst ds)), none]) ds id (fun x => !isWt x) .z
    (by simp [evalIt, evalE, getE, RF.R.bind, O.toD]) (fun x hx => ⟨[u, some (.z (.lst ds)), some (.z x)], by simp [tgE, wipeE], by rw [evalCond]; exact cdW_eq k n (h.2 x hx), fun _ => by simp [evalE, getE], by simp [wipeE]⟩) (by omega) (by simp [restore, wipeE])
theorem areW_eq (k n : Nat) (m : Int) {d : D} (h : Gd n d) (hn : n ≤ 50) : g (k + 3) f_are_weights_of [zi m, .z d] = ret (zb (areW m d)) := by
  rw [at_are_weights_of]
  by_cases hl : ∃ ds, d = .lst ds
  · obtain ⟨ds, rfl⟩ := hl
    cases n with
    | zero => simp [Gd] at h
    | succ n =>
      have c := cxW_eq k n (some (zi m)) h
      have hg := h
      simp only [Gd] at h
      have ok : ∀ d ∈ ds.filter (fun x => !isWt x), d.ok 59 = true := fun d hd => ok_mono (h.2 d (List.mem_filter.mp hd).1).ok (by omega)
      have s1 : evalE (cc (k + 2)) (.or (.cons (.not (.isi .list (.v 1))) (.cons (.cmp .ne (.blt .len (.cons (.v 1) .nil)) (.v 0)) .nil))) [some (zi m), some (.z (.lst ds)), none] = .ok (zb (!decide ((ds.length : Int) = m))) [some (zi m), some (.z (.lst ds)), none] := by
        simp [evalE, evalOr, evalVs, bltV, isiV, viewE, getE, RF.R.bind, O.toD, ofOpt, ne_int]
      rw [run_eq (h := rfl)]
      show RF.finish [false, false] (evalSs (cc (k + 2)) Wf (.cons (.ite _ (.cons (.ret (.tt false)) .nil) .nil) (.cons (.ret (.cmp .eq cxW (.lst .nil))) .nil)) [some (zi m), some (.z (.lst ds)), none]) = _
      by_cases h1 : (ds.length : Int) = m
      · simp only [h1, decide_true, Bool.not_true] at s1
        rw [nxt (ite_ff s1), nxr (ret_ok (fun i z => by cases z) (eq_nil_ok (fun i z => by cases z) c ok)), filter_nil]
        simp [RF.finish, outs?, areW, h1]
      · simp only [h1, decide_false, Bool.not_false] at s1
        rw [nxr (ite_tr s1 (fun i z => by cases z) (by rw [evalE]))]
        simp [RF.finish, outs?, areW, h1]
  · have e : areW m d = false := by cases d <;> first | rfl | exact absurd ⟨_, rfl⟩ hl
    rw [e]
    rcases gd_cases h with rfl | ⟨b, rfl⟩ | ⟨i, rfl⟩ | ⟨x, rfl⟩ | ⟨ds, rfl⟩ | ⟨ds, rfl⟩ <;> first | exact absurd ⟨_, rfl⟩ hl | rfl
/-! ### checks -/
theorem chk {C : Cfg} {c i : Nat} {x : RF.X} {env : RF.Env} {b : Bool} {d : D} (h : evalE C x env = .ok (zb b) env) (hd : getE env i = some (.z d)) : evalS C Wf (.ite (.not x) (.cons (.raise c (.v i)) .nil) .nil) env = if b = true then .nx env else .ex c [d] := by
  rw [st_ite (not_ok h)]
  cases b <;> simp [evalSs, evalS, evalE, hd, Out.ofR, O.toD]
theorem row_chk (k n : Nat) {d : D} (h : Gd n d) (hn : n ≤ 50) : g (k + 4) f_check_row [.z d] = if areN 60 d = true then ret (.z .non) else .ex 0 [d] := by
  have e := areN_eq k n 60 h hn
  rw [at_check_row, run_eq (h := rfl)]
  show RF.finish [false] (evalSs (cc (k + 3)) Wf (.cons (.ite (.not _) (.cons (.raise 0 (.v 0)) .nil) .nil) .nil) [some (.z d)]) = _
  have c : evalE (cc (k + 3)) (.call true f_are_numbers_of (.cons (.v 0) (.cons (.gk k_LONGEST 60) .nil))) [some (.z d)] = .ok (zb (areN 60 d)) [some (.z d)] := by
    simp [evalE, evalArgs, getE, RF.R.bind, doCall, sg_are_numbers_of, cc_call, e, Ar.fetch, Ar.slots, Ar.isRef, back0, O.toD, O.clean, D.lf]
  rw [evalSs, chk c rfl]
  cases areN 60 d <;> simp [RF.finish, outs?, evalSs]
theorem num_chk (k n : Nat) {d : D} (h : Gd n d) (hn : n ≤ 50) : g (k + 4) f_check_numbers [.z d] = if areN 12 d = true then ret (.z .non) else .ex 0 [d] := by
  have e := areN_eq k n 12 h hn
  rw [at_check_numbers, run_eq (h := rfl)]
  show RF.finish [false] (evalSs (cc (k + 3)) Wf (.cons (.ite (.not _) (.cons (.raise 0 (.v 0)) .nil) .nil) .nil) [some (.z d)]) = _
  have c : evalE (cc (k + 3)) (.call true f_are_numbers_of (.cons (.v 0) (.cons (.gk k_MOST_THINGS 12) .nil))) [some (.z d)] = .ok (zb (areN 12 d)) [some (.z d)] := by
    simp [evalE, evalArgs, getE, RF.R.bind, doCall, sg_are_numbers_of, cc_call, e, Ar.fetch, Ar.slots, Ar.isRef, back0, O.toD, O.clean, D.lf]
  rw [evalSs, chk c rfl]
  cases areN 12 d <;> simp [RF.finish, outs?, evalSs]
theorem wts_chk (k n : Nat) (m : Int) {d : D} (h : Gd n d) (hn : n ≤ 50) : g (k + 4) f_check_weights [zi m, .z d] = if areW m d = true then ret (.z .non) else .ex 1 [d] := by
  have e := areW_eq k n m h hn
  rw [at_check_weights, run_eq (h := rfl)]
  show RF.finish [false, false] (evalSs (cc (k + 3)) Wf (.cons (.ite (.not _) (.cons (.raise 1 (.v 1)) .nil) .nil) .nil) [some (zi m), some (.z d)]) = _
  have c : evalE (cc (k + 3)) (.call true f_are_weights_of (.cons (.v 0) (.cons (.v 1) .nil))) [some (zi m), some (.z d)] = .ok (zb (areW m d)) [some (zi m), some (.z d)] := by
    simp [evalE, evalArgs, getE, RF.R.bind, doCall, sg_are_weights_of, cc_call, e, Ar.fetch, Ar.slots, Ar.isRef, back0, O.toD, O.clean, D.lf]
  rw [evalSs, chk c rfl]
  cases areW m d <;> simp [RF.finish, outs?, evalSs]
/-- a row and its weights -/
theorem weighed_bad (k n : Nat) {a b : D} (h : Gd n a) (hn : n ≤ 50) (ha : areN 60 a = false) : g (k + 5) f_check_weighed [.z a, .z b] = .ex 0 [a] := by
  have e := row_chk k n h hn
  rw [ha, if_neg Bool.false_ne_true] at e
  rw [at_check_weighed]
  simp [runF, d_check_weighed, evalSs, evalS, evalE, evalArgs, getE, RF.R.bind, doCall, sg_check_row, cc_call, e, Ar.fetch, Ar.slots, Ar.isRef, back0, O.toD, Out.ofR, RF.finish]
theorem weighed_eq (k n : Nat) {ds : List D} {b : D} (h : Gd n (.lst ds)) (hb : Gd n b) (hn : n ≤ 50) (ha : areN 60 (.lst ds) = true) : g (k + 5) f_check_weighed [.z (.lst ds), .z b] = if areW ds.length b = true then ret (.z .non) else .ex 1 [b] := by
  have e := row_chk k n h hn
  rw [ha, if_pos rfl] at e
  have e2 := wts_chk k n ds.length hb hn
  rw [at_check_weighed]
  cases hw : areW ds.length b with
  | true =>
    rw [hw, if_pos rfl] at e2
    simp [runF, d_check_weighed, evalSs, evalS, evalE, evalArgs, evalVs, bltV, viewE, ofOpt, getE, RF.R.bind, doCall, sg_check_row, sg_check_weights, cc_call, e, e2, Ar.fetch, Ar.slots, Ar.isRef, back0, O.toD, O.clean, D.lf, Out.ofR, RF.finish, outs?]
  | false =>
    rw [hw, if_neg Bool.false_ne_true] at e2
    simp [runF, d_check_weighed, evalSs, evalS, evalE, evalArgs, evalVs, bltV, viewE, ofOpt, getE, RF.R.bind, doCall, sg_check_row, sg_check_weights, cc_call, e, e2, Ar.fetch, Ar.slots, Ar.isRef, back0, O.toD, O.clean, D.lf, Out.ofR, RF.finish, outs?]
/-! ### the same -/
abbrev cdS : RF.X := .not (.call true f__law_same (.cons (.ix (.v 0) (.v 2)) (.cons (.ix (.v 1) (.v 2)) .nil)))
abbrev cxS : RF.X := .comp (.v 2) (.nm 2) (.rng1 (.blt .len (.cons (.v 1) .nil))) (.some cdS) [2]
def items : D → List D
  | .lst ds => ds
  | .tup ds => ds
  | _ => []
theorem itS_eq (m : Nat) {d : D} (hlen : (items d).length < 1000) (hs : (∃ ds, d = .lst ds) ∨ ∃ ds, d = .tup ds) : evalIt (cc m) (.rng1 (.blt .len (.cons (.v 1) .nil))) [some (.z d), some (.z d), none] = .ok ((List.range (items d).length).map fun (j : Nat) => D.int j) [some (.z d), some (.z d), none] := by
  rcases hs with ⟨ds, rfl⟩ | ⟨ds, rfl⟩ <;> exact it_rngN (by simp only [items] at hlen ⊢; omega) (by simp [evalE, evalVs, bltV, viewE, getE, RF.R.bind, O.toD, ofOpt, items])
theorem cdS_eq (m : Nat) {d : D} {j : Nat} (hj : j < (items d).length) (hs : (∃ ds, d = .lst ds) ∨ ∃ ds, d = .tup ds) (ih : g m f__law_same [.z (items d)[j], .z (items d)[j]] = ret (zb true)) :
    evalE (cc m) cdS [some (.z d), some (.z d), some (zi j)] = .ok (zb false) [some (.z d), some (.z d), some (zi j)] := by
  have a : ∀ ds : List D, (h : j < ds.length) → L2.atI ds (j : Int) = some ds[j] := fun ds hl => by rw [atI_nat, List.getElem?_eq_getElem hl]
  rcases hs with ⟨ds, rfl⟩ | ⟨ds, rfl⟩ <;> (
    simp only [items] at hj ih
    have e2 := a ds hj
    simp [cdS, evalE, evalArgs, viewE, getE, RF.R.bind, pureX, O.toD, ofOpt, e2, doCall, sg__law_same, cc_call, ih, Ar.fetch, Ar.slots, Ar.isRef, back0, O.clean, D.lf])
theorem cxS_eq (m : Nat) {d : D} (hlen : (items d).length < 1000) (hs : (∃ ds, d = .lst ds) ∨ ∃ ds, d = .tup ds) (ih : ∀ x ∈ items d, g m f__law_same [.z x, .z x] = ret (zb true)) : evalE (cc m) cxS [some (.z d), some (.z d), none] = .ok (.l []) [some (.z d), some (.z d), none] := by
  have q := ev_comp (elt := .v 2) (t := .nm 2) (cd := .some cdS) (own := [2]) (List.range (items d).length) (fun (j : Nat) => D.int j) (fun _ => false) (fun _ => zi 0) (itS_eq m hlen hs) (fun j hj => ⟨[some (.z d), some (.z d), some (zi j)], rfl, by rw [evalCond]; exact cdS_eq m (List.mem_range.mp hj) hs (ih _ (List.getElem_mem _)), (fun z => nomatch z), rfl⟩)
    (by rw [List.length_range]; omega) rfl (fun _ _ z => nomatch z)
  rw [show (List.range (items d).length).filter (fun _ => false) = [] from by simp, List.map_nil] at q
  exact q
theorem same_seq (m n : Nat) {d : D} (h : Gd (n + 1) d) (hs : (∃ ds, d = .lst ds) ∨ ∃ ds, d = .tup ds) (ih : ∀ x ∈ items d, g m f__law_same [.z x, .z x] = ret (zb true)) : g (m + 1) f__law_same [.z d, .z d] = ret (zb true) := by
  have hlen : (items d).length < 1000 := by
    rcases hs with ⟨ds, rfl⟩ | ⟨ds, rfl⟩ <;> (simp only [Gd] at h; exact h.1)
  have c := cxS_eq m hlen hs ih
  have c2 := eq_nil_ok (ds := []) (fun i z => by cases z) c (fun d hd => by cases hd)
  rw [at__law_same, run_eq (h := rfl)]
  have s1 : evalE (cc m) (.or (.cons (.cmp .is (.v 1) .non) (.cons (.cmp .is (.v 1) (.tt true)) (.cons (.cmp .is (.v 1) (.tt false)) .nil)))) [some (.z d), some (.z d), none] = .ok (zb false) [some (.z d), some (.z d), none] := by
    rcases hs with ⟨ds, rfl⟩ | ⟨ds, rfl⟩ <;> simp [evalE, evalOr, viewE, getE, RF.R.bind, O.toD, cmpop, D.isNon, D.isBl, ofOpt]
  have s2 : evalE (cc m) (.isi .lt (.v 1)) [some (.z d), some (.z d), none] = .ok (zb true) [some (.z d), some (.z d), none] := by
    rcases hs with ⟨ds, rfl⟩ | ⟨ds, rfl⟩ <;> simp [evalE, viewE, getE, RF.R.bind, O.toD, isiV, ofOpt]
  have s3 : evalE (cc m) (.or (.cons (.and (.cons (.not (.isi .list (.v 0))) (.cons (.isi .list (.v 1)) .nil))) (.cons (.and (.cons (.not (.isi .tuple (.v 0))) (.cons (.isi .tuple (.v 1)) .nil))) .nil))) [some (.z d), some (.z d), none] = .ok (zb false) [some (.z d), some (.z d), none] := by
    rcases hs with ⟨ds, rfl⟩ | ⟨ds, rfl⟩ <;> simp [evalE, evalOr, evalAnd, viewE, getE, RF.R.bind, O.toD, isiV, ofOpt]
  have s4 : evalE (cc m) (.cmp .eq (.blt .len (.cons (.v 0) .nil)) (.blt .len (.cons (.v 1) .nil))) [some (.z d), some (.z d), none] = .ok (zb true) [some (.z d), some (.z d), none] := by
    rcases hs with ⟨ds, rfl⟩ | ⟨ds, rfl⟩ <;> simp [evalE, evalVs, bltV, viewE, getE, RF.R.bind, O.toD, eq_int, ofOpt]
  have s5 : evalE (cc m) (.and (.cons (.cmp .eq (.blt .len (.cons (.v 0) .nil)) (.blt .len (.cons (.v 1) .nil))) (.cons (.cmp .eq cxS (.lst .nil)) .nil))) [some (.z d), some (.z d), none] = .ok (zb true) [some (.z d), some (.z d), none] := by
    rw [evalE, and_t s4, and_1, c2]; rfl
  show RF.finish [false, false] (evalSs (cc m) Wf (.cons (.ite _ _ .nil) (.cons (.ite (.isi .lt (.v 1)) (.cons (.ite _ _ .nil) (.cons (.ret _) .nil)) .nil) _)) [some (.z d), some (.z d), none]) = _
  rw [nxt (ite_ff s1), nxr (show evalS (cc m) Wf (.ite (.isi .lt (.v 1)) _ .nil) [some (.z d), some (.z d), none] = .rt (zb true) [some (.z d), some (.z d), none] from ?_)]
  · rfl
  · rw [st_ite s2, if_pos rfl, nxt (ite_ff s3), nxr (ret_ok (fun i z => by cases z) s5)]
theorem same_self : ∀ (n k : Nat) {d : D}, Gd n d → n ≤ 50 → g (k + n + 1) f__law_same [.z d, .z d] = ret (zb true)
  | n, k, d, h, hn => by
    rcases gd_cases h with rfl | ⟨b, rfl⟩ | ⟨i, rfl⟩ | ⟨x, rfl⟩ | ⟨ds, rfl⟩ | ⟨ds, rfl⟩
    · rw [at__law_same]
      simp [runF, d__law_same, evalSs, evalS, evalE, evalOr, viewE, getE, RF.R.bind, O.toD, cmpop, D.isNon, D.isBl, ofOpt, Out.ofR, RF.finish, outs?]
    · rw [at__law_same]
      cases b <;> simp [runF, d__law_same, evalSs, evalS, evalE, evalOr, viewE, getE, RF.R.bind, O.toD, cmpop, D.isNon, D.isBl, ofOpt, Out.ofR, RF.finish, outs?]
    · rw [at__law_same]
      simp [runF, d__law_same, evalSs, evalS, evalE, evalOr, evalAnd, viewE, getE, RF.R.bind, O.toD, cmpop, D.isNon, D.isBl, ofOpt, Out.ofR, RF.finish, outs?, isiV, eqv_int, D.ok]
    · have hx : PySem.PyData.strOk x = true := by cases n <;> simpa [Gd] using h
      have e : D.eqv (.str x) (.str x) = true := by simp [D.eqv, D.py, PySem.PyData.eqv]
      rw [at__law_same]
      simp [runF, d__law_same, evalSs, evalS, evalE, evalOr, evalAnd, viewE, getE, RF.R.bind, O.toD, cmpop, D.isNon, D.isBl, ofOpt, Out.ofR, RF.finish, outs?, isiV, e, D.ok, hx]
    · cases n with
      | zero => simp [Gd] at h
      | succ n =>
        have h' := h
        simp only [Gd] at h'
        exact same_seq (k + (n + 1)) n h (.inl ⟨ds, rfl⟩) fun x hx => same_self n k (h'.2 x hx) (by omega)
    · cases n with
      | zero => simp [Gd] at h
      | succ n =>
        have h' := h
        simp only [Gd] at h'
        exact same_seq (k + (n + 1)) n h (.inr ⟨ds, rfl⟩) fun x hx => same_self n k (h'.2 x hx) (by omega)
end K34
/-! K34q: heights of a row. -/
namespace K34
open RF
section
variable (N W : List Int)
/-- one more height -/
def nextH (j : Nat) : Int := nth W j + mx (((List.range j).filter fun p => decide (nth N p ≤ nth N j)).map (nth (hts N W j)))
theorem hts_succ (j : Nat) : hts N W (j + 1) = hts N W j ++ [nextH N W j] := rfl
theorem map_zi (xs : List Nat) (f : Nat → Int) : (xs.map fun j => zi (f j)) = (xs.map f).map zi := by rw [List.map_map]; rfl
abbrev cxA : RF.X := .comp (.ix (.v 2) (.v 6)) (.nm 6) (.rng1 (.v 3)) (.some (.cmp .le (.ix (.v 0) (.v 6)) (.v 4))) [6]
abbrev enA (j : Nat) (w : Option O) (p : Option O) : RF.Env := [some (.z (li N)), some (.z (li W)), some (ol (hts N W j)), some (zi j), some (zi (nth N j)), w, p]
theorem cxA_eq (m j : Nat) (w : Option O) (hj : j < N.length) (hl : N.length < 1000) : evalE (cc m) cxA (enA N W j w none) = .ok (ol (((List.range j).filter fun p => decide (nth N p ≤ nth N j)).map (nth (hts N W j)))) (enA N W j w none) := by
  have q := ev_comp (C := cc m) (elt := .ix (.v 2) (.v 6)) (t := .nm 6) (it := .rng1 (.v 3)) (cd := .some (.cmp .le (.ix (.v 0) (.v 6)) (.v 4))) (own := [6]) (env := enA N W j w none) (env1 := enA N W j w none) (List.range j) (fun (j : Nat) => D.int j) (fun p => decide (nth N p ≤ nth N j)) (fun p => zi (nth (hts N W j) p))
    (it_rngN (by omega) (ev_v rfl)) (fun p hp => by
      have hp := List.mem_range.mp hp
      exact ⟨enA N W j w (some (zi p)), rfl, by rw [evalCond]; exact le_ok (See.ix (See.z rfl) rfl (ev_v rfl) (by omega)) (ev_v rfl), fun _ => See.ix (See.l rfl) rfl (ev_v rfl) (by rw [hts_len]; omega), rfl⟩)
    (by rw [List.length_range]; omega) rfl (fun _ _ _ => rfl)
  rw [map_zi] at q
  exact q
abbrev exA : RF.X := .bin .add (.ix (.v 1) (.v 3)) (.blt .max1 (.cons (.bin .add (.v 5) (.lst (.cons (.n 0) .nil))) .nil))
theorem bdA_eq (m j : Nat) (w : Option O) (hj : j < N.length) (hw : W.length = N.length) (hl : N.length < 1000) : ∃ w', evalSs (cc m) Wf (.cons (.set 5 cxA) (.cons (.app 2 exA) .nil)) (enA N W j w none) = .nx [some (.z (li N)), some (.z (li W)), some (ol (hts N W (j + 1))), some (zi j), some (zi (nth N j)), w', none] := by
  refine ⟨some (ol (((List.range j).filter fun p => decide (nth N p ≤ nth N j)).map (nth (hts N W j)))), ?_⟩
  have c1 : evalS (cc m) Wf (.set 5 cxA) (enA N W j w none) = .nx (enA N W j _ none) := set_ok (cxA_eq N W m j w hj hl)
  rw [nxt c1]
  generalize hz : ((List.range j).filter fun p => decide (nth N p ≤ nth N j)).map (nth (hts N W j)) = zs
  have zl : zs.length ≤ j := by
    rw [← hz, List.length_map]
    have := List.length_filter_le (fun p => decide (nth N p ≤ nth N j)) (List.range j)
    simpa using this
  have s : evalE (cc m) exA (enA N W j (some (ol zs)) none) = .ok (zi (nextH N W j)) (enA N W j (some (ol zs)) none) := by
    refine add_ok (See.ix (See.z rfl) rfl (ev_v rfl) (by omega)) ?_
    have c : evalVs (cc m) (.cons (.bin .add (.v 5) (.lst (.cons (.n 0) .nil))) .nil) (enA N W j (some (ol zs)) none) = .ok [li (zs ++ [0])] (enA N W j (some (ol zs)) none) := by
      have b : evalE (cc m) (.bin .add (.v 5) (.lst (.cons (.n 0) .nil))) (enA N W j (some (ol zs)) none) = .ok (ol (zs ++ [0])) (enA N W j (some (ol zs)) none) := by
        rw [evalE, show pureX (.lst (.cons (.n 0) .nil)) = true from rfl, See.view (xs := zs) (See.l rfl)]
        simp only [RF.R.bind_ok]
        rw [vw (lst1_ok ev_n)]
        simp only [RF.R.bind_ok]
        rw [show (O.l [zi 0]).toD = li [0] from rfl, cat_li zs [0] (by omega) (by decide)]
        rfl
      have v := vs1 b
      rw [toD_ol] at v
      exact v
    exact blv_ok c (max_li (by rw [max_app, ← hz]))
  rw [nxt (show evalS (cc m) Wf (.app 2 exA) (enA N W j (some (ol zs)) none) = _ from app_ok (os := (hts N W j).map zi) rfl s (by rw [List.length_map, hts_len]; omega)), nx0, hts_succ, show ol (hts N W j ++ [nextH N W j]) = .l ((hts N W j).map zi ++ [zi (nextH N W j)]) from by rw [ol, List.map_append]; rfl]
  rfl
theorem forA_eq (m : Nat) (hw : W.length = N.length) (hl : N.length < 1000) : ∃ x y w, evalS (cc m) Wf (.for (.tp [3, 4]) (.enum (.v 0)) (.cons (.set 5 cxA) (.cons (.app 2 exA) .nil))) [some (.z (li N)), some (.z (li W)), some (ol []), none, none, none, none] = .nx [some (.z (li N)), some (.z (li W)), some (ol (hts N W N.length)), x, y, w, none] := by
  obtain ⟨e', h1, x, y, w, h2⟩ := ev_for (t := .tp [3, 4]) (body := fun e => evalSs (cc m) Wf (.cons (.set 5 cxA) (.cons (.app 2 exA) .nil)) e) (q := fun (j : Nat) => D.tup [.int j, .int (nth N j)])
    (fun j e => ∃ x y w, e = [some (.z (li N)), some (.z (li W)), some (ol (hts N W j)), x, y, w, none]) (xs := List.range N.length) (k := 0) (e := [some (.z (li N)), some (.z (li W)), some (ol []), none, none, none, none]) ⟨none, none, none, rfl⟩ (fun j x e hj ⟨a, b, w, he⟩ => by
      obtain ⟨h, rfl⟩ := List.getElem?_eq_some_iff.mp hj
      simp only [List.length_range] at h
      simp only [List.getElem_range, Nat.zero_add] at he ⊢
      subst he
      obtain ⟨w', q⟩ := bdA_eq N W m j w h hw hl
      exact ⟨enA N W j w none, _, rfl, q, _, _, _, rfl⟩)
  rw [Nat.zero_add, List.length_range] at h2
  subst h2
  exact ⟨x, y, w, for_ok (it_enum (ev_v rfl) rfl) h1⟩
theorem heights_eq (k : Nat) (hw : W.length = N.length) (hl : N.length < 1000) : g (k + 1) f_heights_of_row [.z (li N), .z (li W)] = ret (ol (hts N W N.length)) := by
  obtain ⟨x, y, w, q⟩ := forA_eq N W k hw hl
  rw [at_heights_of_row, run_eq (h := rfl)]
  show RF.finish [false, false] (evalSs (cc k) Wf (.cons (.set 2 (.lst .nil)) (.cons (.for _ _ _) (.cons (.ret (.v 2)) .nil))) [some (.z (li N)), some (.z (li W)), none, none, none, none, none]) = _
  rw [nxt (set_ok ev_nil)]
  show RF.finish [false, false] (evalSs (cc k) Wf (.cons (.for (.tp [3, 4]) (.enum (.v 0)) (.cons (.set 5 cxA) (.cons (.app 2 exA) .nil))) (.cons (.ret (.v 2)) .nil)) [some (.z (li N)), some (.z (li W)), some (ol []), none, none, none, none]) = _
  rw [nxt q, nxr (retv rfl)]
  rfl
/-! ### .. by the law -/
abbrev cxB : RF.X := .comp (.ix (.v 2) (.v 5)) (.nm 5) (.rng1 (.v 3)) (.some (.cmp .le (.ix (.v 0) (.v 5)) (.v 4))) [5]
abbrev enB (j : Nat) (p : Option O) : RF.Env := [some (.z (li N)), some (.z (li W)), some (ol (hts N W j)), some (zi j), some (zi (nth N j)), p]
theorem cxB_eq (m j : Nat) (hj : j < N.length) (hl : N.length < 1000) : evalE (cc m) cxB (enB N W j none) = .ok (ol (((List.range j).filter fun p => decide (nth N p ≤ nth N j)).map (nth (hts N W j)))) (enB N W j none) := by
  have q := ev_comp (C := cc m) (elt := .ix (.v 2) (.v 5)) (t := .nm 5) (it := .rng1 (.v 3)) (cd := .some (.cmp .le (.ix (.v 0) (.v 5)) (.v 4))) (own := [5]) (env := enB N W j none) (env1 := enB N W j none) (List.range j) (fun (j : Nat) => D.int j) (fun p => decide (nth N p ≤ nth N j)) (fun p => zi (nth (hts N W j) p))
    (it_rngN (by omega) (ev_v rfl)) (fun p hp => by
      have hp := List.mem_range.mp hp
      exact ⟨enB N W j (some (zi p)), rfl, by rw [evalCond]; exact le_ok (See.ix (See.z rfl) rfl (ev_v rfl) (by omega)) (ev_v rfl), fun _ => See.ix (See.l rfl) rfl (ev_v rfl) (by rw [hts_len]; omega), rfl⟩)
    (by rw [List.length_range]; omega) rfl (fun _ _ _ => rfl)
  rw [map_zi] at q
  exact q
abbrev exB : RF.X := .bin .add (.ix (.v 1) (.v 3)) (.blt .max1 (.cons (.bin .add (.lst (.cons (.n 0) .nil)) cxB) .nil))
theorem bdB_eq (m j : Nat) (hj : j < N.length) (hw : W.length = N.length) (hl : N.length < 1000) : evalSs (cc m) Wf (.cons (.app 2 exB) .nil) (enB N W j none) = .nx [some (.z (li N)), some (.z (li W)), some (ol (hts N W (j + 1))), some (zi j), some (zi (nth N j)), none] := by
  have c1 := cxB_eq N W m j hj hl
  generalize hz : ((List.range j).filter fun p => decide (nth N p ≤ nth N j)).map (nth (hts N W j)) = zs at c1
  have zl : zs.length ≤ j := by
    rw [← hz, List.length_map]
    have := List.length_filter_le (fun p => decide (nth N p ≤ nth N j)) (List.range j)
    simpa using this
  have s : evalE (cc m) exB (enB N W j none) = .ok (zi (nextH N W j)) (enB N W j none) := by
    refine add_ok (See.ix (See.z rfl) rfl (ev_v rfl) (by omega)) ?_
    have b : evalE (cc m) (.bin .add (.lst (.cons (.n 0) .nil)) cxB) (enB N W j none) = .ok (ol (0 :: zs)) (enB N W j none) := by
      refine bin_ok (lst1_ok ev_n) c1 ?_
      rw [toD_ol, show (O.l [zi 0]).toD = li [0] from rfl, cat_li [0] zs (by decide) (by omega)]
      rfl
    exact max_ok b (by rw [max_cons, ← hz])
  rw [nxt (show evalS (cc m) Wf (.app 2 exB) (enB N W j none) = _ from app_ok (os := (hts N W j).map zi) rfl s (by rw [List.length_map, hts_len]; omega)), nx0, hts_succ, show ol (hts N W j ++ [nextH N W j]) = .l ((hts N W j).map zi ++ [zi (nextH N W j)]) from by rw [ol, List.map_append]; rfl]
  rfl
theorem forB_eq (m : Nat) (hw : W.length = N.length) (hl : N.length < 1000) : ∃ x y, evalS (cc m) Wf (.for (.tp [3, 4]) (.enum (.v 0)) (.cons (.app 2 exB) .nil)) [some (.z (li N)), some (.z (li W)), some (ol []), none, none, none] = .nx [some (.z (li N)), some (.z (li W)), some (ol (hts N W N.length)), x, y, none] := by
  obtain ⟨e', h1, x, y, h2⟩ := ev_for (t := .tp [3, 4]) (body := fun e => evalSs (cc m) Wf (.cons (.app 2 exB) .nil) e) (q := fun (j : Nat) => D.tup [.int j, .int (nth N j)])
    (fun j e => ∃ x y, e = [some (.z (li N)), some (.z (li W)), some (ol (hts N W j)), x, y, none]) (xs := List.range N.length) (k := 0) (e := [some (.z (li N)), some (.z (li W)), some (ol []), none, none, none]) ⟨none, none, rfl⟩ (fun j x e hj ⟨a, b, he⟩ => by
      obtain ⟨h, rfl⟩ := List.getElem?_eq_some_iff.mp hj
      simp only [List.length_range] at h
      simp only [List.getElem_range, Nat.zero_add] at he ⊢
      subst he
      exact ⟨enB N W j none, _, rfl, bdB_eq N W m j h hw hl, _, _, rfl⟩)
  rw [Nat.zero_add, List.length_range] at h2
  subst h2
  exact ⟨x, y, for_ok (it_enum (ev_v rfl) rfl) h1⟩
theorem heights2_eq (k : Nat) (hw : W.length = N.length) (hl : N.length < 1000) : g (k + 1) f__law_heights [.z (li N), .z (li W)] = ret (ol (hts N W N.length)) := by
  obtain ⟨x, y, q⟩ := forB_eq N W k hw hl
  rw [at__law_heights, run_eq (h := rfl)]
  show RF.finish [false, false] (evalSs (cc k) Wf (.cons (.set 2 (.lst .nil)) (.cons (.for _ _ _) (.cons (.ret (.v 2)) .nil))) [some (.z (li N)), some (.z (li W)), none, none, none, none]) = _
  rw [nxt (set_ok ev_nil)]
  show RF.finish [false, false] (evalSs (cc k) Wf (.cons (.for (.tp [3, 4]) (.enum (.v 0)) (.cons (.app 2 exB) .nil)) (.cons (.ret (.v 2)) .nil)) [some (.z (li N)), some (.z (li W)), some (ol []), none, none, none]) = _
  rw [nxt q, nxr (retv rfl)]
  rfl
end
end K34
/-! K34r: rows: heights, what is changed, falls. -/
namespace K34
open RF
structure Row (N W : List Int) : Prop where
  n1 : 1 ≤ N.length
  n2 : N.length ≤ 60
  wl : W.length = N.length
  nb : ∀ x ∈ N, -1000000000 ≤ x ∧ x ≤ 1000000000
  wb : ∀ x ∈ W, 1 ≤ x ∧ x ≤ 1000
theorem nth_mem {xs : List Int} {j : Nat} (h : j < xs.length) : nth xs j ∈ xs := by
  have : nth xs j = xs[j] := by simp [nth, List.getD, h]
  rw [this]; exact List.getElem_mem h
section
variable {N W : List Int}
theorem Row.gN (r : Row N W) : Gd 1 (li N) := gd_li (by have := r.n2; omega)
theorem Row.gW (r : Row N W) : Gd 1 (li W) := gd_li (by have := r.n2; have := r.wl; omega)
theorem Row.aN (r : Row N W) : areN 60 (li N) = true := by
  simp only [areN, List.length_map, Bool.and_eq_true, decide_eq_true_eq]
  refine ⟨⟨by have := r.n1; omega, by have := r.n2; omega⟩, ?_⟩
  rw [List.all_map, List.all_eq_true]
  intro x hx
  have := r.nb x hx
  simp [isN]; omega
theorem Row.aW (r : Row N W) : areW N.length (li W) = true := by
  simp only [areW, List.length_map, Bool.and_eq_true, decide_eq_true_eq]
  refine ⟨by have := r.wl; omega, ?_⟩
  rw [List.all_map, List.all_eq_true]
  intro x hx
  have := r.wb x hx
  simp [isWt]; omega
theorem Row.check (r : Row N W) (k : Nat) : g (k + 5) f_check_weighed [.z (li N), .z (li W)] = ret (.z .non) := by
  rw [weighed_eq k 1 r.gN r.gW (by decide) r.aN, List.length_map, r.aW, if_pos rfl]
theorem Row.check1 (r : Row N W) (k : Nat) : g (k + 4) f_check_row [.z (li N)] = ret (.z .non) := by
  rw [row_chk k 1 r.gN (by decide), r.aN, if_pos rfl]
theorem Row.wpos (r : Row N W) {j : Nat} (h : j < N.length) : 0 < nth W j := by
  have := r.wb _ (nth_mem (xs := W) (j := j) (by rw [r.wl]; exact h))
  omega
theorem Row.hpos (r : Row N W) : ∀ x ∈ hts N W N.length, 0 < x := by
  intro x hx
  rw [hts_map] at hx
  obtain ⟨j, hj, rfl⟩ := List.mem_map.mp hx
  have := r.wpos (List.mem_range.mp hj)
  have := ht_self N W j
  omega
theorem Row.hmax (r : Row N W) : (hts N W N.length).max? = some (mx (hts N W N.length)) := max_pos (fun z => by have := hts_len N W N.length; rw [z] at this; have := r.n1; simp at *; omega) r.hpos
/-- arguments: two lists -/
theorem args2 {C : Cfg} {e : RF.Env} {i j : Nat} {a b : D} (h1 : getE e i = some (.z a)) (h2 : getE e j = some (.z b)) : evalArgs C (.cons (.v i) (.cons (.v j) .nil)) [false, false] e = .ok ([a, b].map Ar.val) e := arg_c (ev_v h1) (arg_c (ev_v h2) arg_0)
theorem args1 {C : Cfg} {e : RF.Env} {i : Nat} {a : D} (h1 : getE e i = some (.z a)) : evalArgs C (.cons (.v i) .nil) [false] e = .ok ([a].map Ar.val) e := arg_c (ev_v h1) arg_0
theorem weighed_in (r : Row N W) (k : Nat) {e : RF.Env} {i j : Nat} (h1 : getE e i = some (.z (li N))) (h2 : getE e j = some (.z (li W))) : evalE (cc (k + 5)) (.call true f_check_weighed (.cons (.v i) (.cons (.v j) .nil))) e = .ok (.z .non) e :=
  call_rt [li N, li W] (sg_check_weighed _) (args2 h1 h2) (r.check k) rfl
theorem heights_in (r : Row N W) (k : Nat) {e : RF.Env} {i j : Nat} (h1 : getE e i = some (.z (li N))) (h2 : getE e j = some (.z (li W))) : evalE (cc (k + 1)) (.call true f_heights_of_row (.cons (.v i) (.cons (.v j) .nil))) e = .ok (ol (hts N W N.length)) e :=
  call_rt [li N, li W] (sg_heights_of_row _) (args2 h1 h2) (heights_eq N W k r.wl (by have := r.n2; omega)) (clean_ol _)
theorem row_heights_eq (r : Row N W) (k : Nat) : g (k + 6) f_row_heights [.z (li N), .z (li W)] = ret (ol (hts N W N.length)) := by
  rw [at_row_heights, run_eq (h := rfl)]
  show RF.finish [false, false] (evalSs (cc (k + 5)) Wf (.cons (.expr _) (.cons (.ret _) .nil)) [some (.z (li N)), some (.z (li W))]) = _
  rw [nxt (expr_ok (weighed_in r k rfl rfl)), nxr (ret_ok (by intro i z; cases z) (heights_in r (k + 4) rfl rfl))]
  rfl
theorem row_changed_eq (r : Row N W) (k : Nat) : g (k + 6) f_row_changed [.z (li N), .z (li W)] = ret (zi (W.sum - mx (hts N W N.length))) := by
  rw [at_row_changed, run_eq (h := rfl)]
  show RF.finish [false, false] (evalSs (cc (k + 5)) Wf (.cons (.expr _) (.cons (.ret (.bin .sub (.blt .sum (.cons (.v 1) .nil)) (.blt .max1 (.cons (.call true f_heights_of_row (.cons (.v 0) (.cons (.v 1) .nil))) .nil)))) .nil)) [some (.z (li N)), some (.z (li W))]) = _
  rw [nxt (expr_ok (weighed_in r k rfl rfl)), nxr (ret_ok (by intro i z; cases z) (sub_ok (See.sum (See.z rfl)) (max_ok (heights_in r (k + 4) rfl rfl) r.hmax)))]
  rfl
/-! ### falls -/
def fallsAt (N : List Int) (j : Nat) : Nat := ((N.drop (j + 1)).filter fun x => decide (x < nth N j)).length
def fallsTo (N : List Int) : Nat → Int
  | 0 => 0
  | j + 1 => fallsTo N j + fallsAt N j
theorem cut_drop {α : Type} (xs : List α) (j : Nat) : cutL xs (some (j : Int)) none = xs.drop j := by
  have e1 : HT.sIx xs.length 0 (some (j : Int)) = min j xs.length := by
    unfold HT.sIx
    simp [show ¬ ((j : Int) < 0) by omega]
  have e2 : HT.sIx xs.length xs.length none = xs.length := by unfold HT.sIx; rfl
  unfold cutL
  rw [e1, e2]
  by_cases h : j ≤ xs.length
  · rw [Nat.min_eq_left h, List.take_of_length_le (by simp)]
  · rw [Nat.min_eq_right (by omega), List.drop_eq_nil_of_le (Nat.le_refl _), List.drop_eq_nil_of_le (by omega), List.take_nil]
abbrev cxF : RF.X := .comp (.v 4) (.nm 4) (.seq (.sl (.v 0) (.some (.bin .add (.v 2) (.n 1))) .none)) (.some (.cmp .lt (.v 4) (.v 3))) [4]
abbrev enF (N : List Int) (c : Int) (j : Nat) (p : Option O) : RF.Env := [some (.z (li N)), some (zi c), some (zi j), some (zi (nth N j)), p]
theorem slF {C : Cfg} {N : List Int} {e : RF.Env} {i : Nat} {a : RF.X} {j : Nat} (h : getE e i = some (.z (li N))) (ha : evalE C a e = .ok (zi j) e) (hp : pureX a = true) : evalE C (.sl (.v i) (.some (.bin .add a (.n 1))) .none) e = .ok (.l ((N.drop (j + 1)).map zi)) e := by
  have p : evalPart C (.some (.bin .add a (.n 1))) e = .ok (some ((j + 1 : Nat) : Int)) e := by
    rw [evalPart, add_ok ha ev_n]
    simp only [RF.R.bind_ok]
    rw [Int.natCast_add]; rfl
  have q : evalPart C .none e = .ok none e := by rw [evalPart]
  rw [evalE, show (pureXo (.some (.bin .add a (.n 1))) && pureXo .none) = true from by simp [pureXo, pureX, hp], See.view (See.z h)]
  simp only [RF.R.bind_ok, p, q, cut_drop]
  rw [← List.map_drop, ← zi_map]
theorem cxF_eq (m j : Nat) (c : Int) (hl : N.length < 1000) : evalE (cc m) cxF (enF N c j none) = .ok (ol ((N.drop (j + 1)).filter fun x => decide (x < nth N j))) (enF N c j none) := by
  exact ev_comp (C := cc m) (elt := .v 4) (t := .nm 4) (it := .seq (.sl (.v 0) (.some (.bin .add (.v 2) (.n 1))) .none)) (cd := .some (.cmp .lt (.v 4) (.v 3))) (own := [4]) (env := enF N c j none) (env1 := enF N c j none) (N.drop (j + 1)) (fun x => D.int x) (fun x => decide (x < nth N j)) (fun x => zi x)
    (it_seq (slF rfl (ev_v rfl) rfl) (toD_ol _)) (fun x hx => ⟨enF N c j (some (zi x)), rfl, by rw [evalCond]; exact lt_ok (ev_v rfl) (ev_v rfl), fun _ => ev_v rfl, rfl⟩)
    (by rw [List.length_drop]; omega) rfl (fun _ _ _ => rfl)
theorem bdF_eq (m j : Nat) (hl : N.length < 1000) : evalSs (cc m) Wf (.cons (.set 1 (.bin .add (.v 1) (.blt .len (.cons cxF .nil)))) .nil) (enF N (fallsTo N j) j none) = .nx (enF N (fallsTo N (j + 1)) j none) := by
  have h : evalE (cc m) (.bin .add (.v 1) (.blt .len (.cons cxF .nil))) (enF N (fallsTo N j) j none) = .ok (zi (fallsTo N (j + 1))) (enF N (fallsTo N j) j none) := by
    have l := len_ok (cxF_eq m j (fallsTo N j) hl)
    rw [List.length_map] at l
    exact add_ok (ev_v rfl) l
  have s : evalS (cc m) Wf (.set 1 (.bin .add (.v 1) (.blt .len (.cons cxF .nil)))) (enF N (fallsTo N j) j none) = .nx (enF N (fallsTo N (j + 1)) j none) := set_ok h
  rw [nxt s, nx0]
theorem fall_count_eq (r : Row N W) (k : Nat) : g (k + 5) f_fall_count [.z (li N)] = ret (zi (fallsTo N N.length)) := by
  have hl : N.length < 1000 := by have := r.n2; omega
  rw [at_fall_count, run_eq (h := rfl)]
  show RF.finish [false] (evalSs (cc (k + 4)) Wf (.cons (.expr (.call true f_check_row (.cons (.v 0) .nil))) (.cons (.set 1 (.n 0)) (.cons (.for (.tp [2, 3]) (.enum (.v 0)) (.cons (.set 1 (.bin .add (.v 1) (.blt .len (.cons cxF .nil)))) .nil)) (.cons (.ret (.v 1)) .nil)))) [some (.z (li N)), none, none, none, none]) = _
  have c : evalE (cc (k + 4)) (.call true f_check_row (.cons (.v 0) .nil)) [some (.z (li N)), none, none, none, none] = .ok (.z .non) [some (.z (li N)), none, none, none, none] := call_rt [li N] (sg_check_row _) (args1 rfl) (r.check1 k) rfl
  have s : evalS (cc (k + 4)) Wf (.set 1 (.n 0)) [some (.z (li N)), none, none, none, none] = .nx [some (.z (li N)), some (zi (fallsTo N 0)), none, none, none] := set_ok ev_n
  obtain ⟨e', h1, x, y, h2⟩ := ev_for (t := .tp [2, 3]) (body := fun e => evalSs (cc (k + 4)) Wf (.cons (.set 1 (.bin .add (.v 1) (.blt .len (.cons cxF .nil)))) .nil) e) (q := fun (j : Nat) => D.tup [.int j, .int (nth N j)])
    (fun j e => ∃ x y, e = [some (.z (li N)), some (zi (fallsTo N j)), x, y, none]) (xs := List.range N.length) (k := 0) (e := [some (.z (li N)), some (zi (fallsTo N 0)), none, none, none]) ⟨none, none, rfl⟩ (fun j x e hj ⟨a, b, he⟩ => by
      obtain ⟨h, rfl⟩ := List.getElem?_eq_some_iff.mp hj
      simp only [List.length_range] at h
      simp only [List.getElem_range, Nat.zero_add] at he ⊢
      subst he
      exact ⟨enF N (fallsTo N j) j none, _, rfl, bdF_eq (k + 4) j hl, _, _, rfl⟩)
  rw [Nat.zero_add, List.length_range] at h2
  subst h2
  rw [nxt (expr_ok c), nxt s, nxt (for_ok (it_enum (ev_v rfl) rfl) h1), nxr (retv rfl)]
  rfl
end
end K34
/-! K34s: the kept places. -/
namespace K34
open RF
def pl (P : List Nat) : List Int := P.map fun (i : Nat) => (i : Int)
theorem and2_ok {C : Cfg} {a b : RF.X} {e : RF.Env} {x y : Bool} (ha : evalE C a e = .ok (zb x) e) (hb : evalE C b e = .ok (zb y) e) : evalE C (.and (.cons a (.cons b .nil))) e = .ok (zb (x && y)) e := by
  rw [evalE]
  cases x with
  | false => rw [and_f ha]; rfl
  | true => rw [and_t ha, and_1, hb]; rfl
theorem or2_ok {C : Cfg} {a b : RF.X} {e : RF.Env} {x y : Bool} (ha : evalE C a e = .ok (zb x) e) (hb : evalE C b e = .ok (zb y) e) : evalE C (.or (.cons a (.cons b .nil))) e = .ok (zb (x || y)) e := by
  rw [evalE]
  cases x with
  | true => rw [or_t ha]; rfl
  | false => rw [or_f ha, or_1, hb]; rfl
section
variable {N W : List Int}
abbrev tsK : RF.X := .cmp .gt (.ix (.v 2) (.v 3)) (.ix (.v 1) (.v 3))
abbrev cxK : RF.X := .comp (.v 7) (.nm 7) (.rng1 (.v 3)) (.some (.and (.cons (.cmp .eq (.ix (.v 2) (.v 7)) (.v 5)) (.cons (.cmp .le (.ix (.v 0) (.v 7)) (.ix (.v 0) (.v 3))) .nil)))) [7]
abbrev bdK : Ss := .cons (.set 5 (.bin .sub (.ix (.v 2) (.v 3)) (.ix (.v 1) (.v 3)))) (.cons (.set 6 cxK) (.cons (.set 3 (.ix (.v 6) (.n 0))) (.cons (.app 4 (.v 3)) .nil)))
abbrev enK (N W : List Int) (p : Nat) (F : List Nat) (x y z : Option O) : RF.Env := [some (.z (li N)), some (.z (li W)), some (ol (hts N W N.length)), some (zi p), some (ol (pl F)), x, y, z]
theorem htK {C : Cfg} {p q : Nat} {F : List Nat} {x y z : Option O} {b : RF.X} (hp : pureX b = true) (hb : evalE C b (enK N W p F x y z) = .ok (zi q) (enK N W p F x y z)) (hq : q < N.length) : evalE C (.ix (.v 2) b) (enK N W p F x y z) = .ok (zi (ht N W q)) (enK N W p F x y z) := by
  have := See.ix (xs := hts N W N.length) (i := 2) (See.l rfl) hp hb (by rw [hts_len]; exact hq)
  rw [ht_of N W hq] at this
  exact this
theorem cxK_eq (m p : Nat) (F : List Nat) (y : Option O) (hp : p < N.length) (hl : N.length < 1000) : evalE (cc m) cxK (enK N W p F (some (zi (ht N W p - nth W p))) y none) = .ok (ol (pl (prv N W p))) (enK N W p F (some (zi (ht N W p - nth W p))) y none) := by
  have q := ev_comp (C := cc m) (elt := .v 7) (t := .nm 7) (it := .rng1 (.v 3)) (cd := .some (.and (.cons (.cmp .eq (.ix (.v 2) (.v 7)) (.v 5)) (.cons (.cmp .le (.ix (.v 0) (.v 7)) (.ix (.v 0) (.v 3))) .nil)))) (own := [7]) (env := enK N W p F (some (zi (ht N W p - nth W p))) y none) (env1 := enK N W p F (some (zi (ht N W p - nth W p))) y none) (List.range p) (fun (j : Nat) => D.int j) (fun a => decide (ht N W a = ht N W p - nth W p) && decide (nth N a ≤ nth N p)) (fun a => zi a)
    (it_rngN (by omega) (ev_v rfl)) (fun a ha => by
      have ha := List.mem_range.mp ha
      exact ⟨enK N W p F (some (zi (ht N W p - nth W p))) y (some (zi a)), rfl, by rw [evalCond]; exact and2_ok (eq_ok (htK rfl (ev_v rfl) (by omega)) (ev_v rfl)) (le_ok (See.ix (See.z rfl) rfl (ev_v rfl) (by omega)) (See.ix (See.z rfl) rfl (ev_v rfl) hp)), fun _ => ev_v rfl, rfl⟩)
    (by rw [List.length_range]; omega) rfl (fun _ _ _ => rfl)
  rw [map_zi _ (fun (a : Nat) => (a : Int))] at q
  exact q
theorem bdK_eq (r : Row N W) (m p : Nat) (F : List Nat) (x y : Option O) (hp : p < N.length) (h : nth W p < ht N W p) (hF : F.length < 1000) : ∃ a x' y', a < p ∧ ht N W a = ht N W p - nth W p ∧ nth N a ≤ nth N p ∧ evalSs (cc m) Wf bdK (enK N W p F x y none) = .nx (enK N W a (F ++ [a]) x' y' none) := by
  obtain ⟨a, t, e, h1, h2, h3⟩ := prv_some N W h
  refine ⟨a, some (zi (ht N W p - nth W p)), some (ol (pl (a :: t))), h1, h2, h3, ?_⟩
  have s1 : evalS (cc m) Wf (.set 5 (.bin .sub (.ix (.v 2) (.v 3)) (.ix (.v 1) (.v 3)))) (enK N W p F x y none) = .nx (enK N W p F (some (zi (ht N W p - nth W p))) y none) :=
    set_ok (sub_ok (htK rfl (ev_v rfl) hp) (See.ix (See.z rfl) rfl (ev_v rfl) (by rw [r.wl]; exact hp)))
  have s2 : evalS (cc m) Wf (.set 6 cxK) (enK N W p F (some (zi (ht N W p - nth W p))) y none) = .nx (enK N W p F (some (zi (ht N W p - nth W p))) (some (ol (pl (a :: t)))) none) := by
    have := cxK_eq m p F y hp (show N.length < 1000 by have := r.n2; omega) (W := W)
    rw [e] at this
    exact set_ok this
  have s3 : evalS (cc m) Wf (.set 3 (.ix (.v 6) (.n 0))) (enK N W p F (some (zi (ht N W p - nth W p))) (some (ol (pl (a :: t)))) none) = .nx (enK N W a F (some (zi (ht N W p - nth W p))) (some (ol (pl (a :: t)))) none) := by
    refine set_ok (See.ix (j := 0) (xs := pl (a :: t)) (See.l rfl) rfl ev_n (by simp [pl]))
  have s4 : evalS (cc m) Wf (.app 4 (.v 3)) (enK N W a F (some (zi (ht N W p - nth W p))) (some (ol (pl (a :: t)))) none) = .nx (enK N W a (F ++ [a]) (some (zi (ht N W p - nth W p))) (some (ol (pl (a :: t)))) none) := by
    have := app_ok (C := cc m) (W := Wf) (i := 4) (a := .v 3) (e := enK N W a F (some (zi (ht N W p - nth W p))) (some (ol (pl (a :: t)))) none) (os := (pl F).map zi) (o := zi a) rfl (ev_v rfl) (by simp [pl]; omega)
    rw [this]
    show Out.nx [_, _, _, _, some (.l ((pl F).map zi ++ [zi a])), _, _, _] = .nx [_, _, _, _, some (.l ((pl (F ++ [a])).map zi)), _, _, _]
    rw [show (pl (F ++ [a])).map zi = (pl F).map zi ++ [zi a] from by rw [pl, List.map_append, List.map_append]; rfl]
  rw [nxt s1, nxt s2, nxt s3, nxt s4, nx0]
theorem whl_go {test : RF.Env → RF.R O} {body : RF.Env → Out} {n : Nat} {e e1 : RF.Env} (h : test e = .ok (zb true) e) (h2 : body e = .nx e1) : evalWhile test body (n + 1) e = evalWhile test body n e1 := by
  rw [evalWhile, h]
  simp only [Out.ofR_ok, h2]
theorem whl_end {test : RF.Env → RF.R O} {body : RF.Env → Out} {n : Nat} {e : RF.Env} (h : test e = .ok (zb false) e) : evalWhile test body (n + 1) e = .nx e := by
  rw [evalWhile, h]
  rfl
theorem loopK (r : Row N W) (m : Nat) (total : Int) : ∀ (fuel p : Nat) (F : List Nat) (x y : Option O), p < fuel → p < N.length → F.length + p < N.length + 1 → (∀ i ∈ F, i < N.length) → Kp N W p F total → ∃ P F' x' y',
    evalWhile (fun e => evalE (cc m) tsK e) (fun e => evalSs (cc m) Wf bdK e) fuel (enK N W p F x y none) = .nx (enK N W P F' x' y' none) ∧ Kp N W P F' total ∧ ht N W P = nth W P ∧ ∀ i ∈ F', i < N.length
  | 0, p, _, _, _, h, _, _, _, _ => by omega
  | fuel + 1, p, F, x, y, h, hp, hF, hi, kp => by
    have t : evalE (cc m) tsK (enK N W p F x y none) = .ok (zb (decide (nth W p < ht N W p))) (enK N W p F x y none) := gt_ok (htK rfl (ev_v rfl) hp) (See.ix (See.z rfl) rfl (ev_v rfl) (by rw [r.wl]; exact hp))
    by_cases q : nth W p < ht N W p
    · obtain ⟨a, x', y', h1, h2, h3, h4⟩ := bdK_eq r m p F x y hp q (by have := r.n2; omega)
      rw [decide_eq_true q] at t
      rw [whl_go (body := fun e => evalSs (cc m) Wf bdK e) t h4]
      exact loopK r m total fuel a (F ++ [a]) x' y' (by omega) (by omega) (by simp; omega) (fun i hm => by
        rcases List.mem_append.mp hm with z | z
        · exact hi i z
        · rw [List.mem_singleton.mp z]; omega) (kp.step N W h1 h2 h3)
    · rw [decide_eq_false q] at t
      have := ht_self N W p
      exact ⟨p, F, x, y, whl_end t, kp, by omega, hi⟩
/-- what is kept -/
structure Kept (N W : List Int) (P : List Nat) : Prop where
  up : P.Pairwise fun i j => i < j ∧ nth N i ≤ nth N j
  lt : ∀ i ∈ P, i < N.length
  sum : sumW W P = mx (hts N W N.length)
theorem idx_li {xs : List Int} {k : Int} (h : k ∈ xs) : idxI (xs.map D.int) k = some (xs.idxOf k) := by
  unfold idxI
  rw [ints_map]
  simp [h]
theorem row_kept_eq (r : Row N W) (k : Nat) : ∃ P, Kept N W P ∧ g (k + 6) f_row_kept [.z (li N), .z (li W)] = ret (ol (pl P)) := by
  have mm := (List.max?_eq_some_iff.mp r.hmax).1
  generalize hM : mx (hts N W N.length) = M at mm
  have pn : (hts N W N.length).idxOf M < N.length := by have := List.idxOf_lt_length_of_mem mm; rw [hts_len] at this; exact this
  have hp : ht N W ((hts N W N.length).idxOf M) = M := by
    rw [← ht_of N W pn]
    have l := List.idxOf_lt_length_of_mem mm
    simp only [nth, List.getD]
    rw [List.getElem?_eq_getElem l]
    simp
  generalize hq : (hts N W N.length).idxOf M = p at pn hp
  obtain ⟨P, F, x, y, h1, kp, h2, h3⟩ := loopK r (k + 5) M Wf p [p] none none (by have := r.n2; show p < 5000; omega) pn (by simp; omega) (fun i hm => by rw [List.mem_singleton.mp hm]; exact pn) ⟨rfl, List.pairwise_singleton _ _, by simp [sumW]; omega⟩
  refine ⟨F.reverse, ⟨?_, fun i hm => h3 i (List.mem_reverse.mp hm), ?_⟩, ?_⟩
  · rw [List.pairwise_reverse]; exact kp.down
  · have := kp.sum
    rw [hM]
    unfold sumW at *
    rw [List.map_reverse, List.sum_reverse]
    omega
  · rw [at_row_kept, run_eq (h := rfl)]
    show RF.finish [false, false] (evalSs (cc (k + 5)) Wf (.cons (.expr _) (.cons (.set 2 _) (.cons (.set 3 (.idx 2 (.blt .max1 (.cons (.v 2) .nil)))) (.cons (.set 4 (.lst (.cons (.v 3) .nil))) (.cons (.whl tsK bdK) (.cons (.ret (.rev (.v 4))) .nil)))))) [some (.z (li N)), some (.z (li W)), none, none, none, none, none, none]) = _
    have s1 : evalS (cc (k + 5)) Wf (.set 2 (.call true f_heights_of_row (.cons (.v 0) (.cons (.v 1) .nil)))) [some (.z (li N)), some (.z (li W)), none, none, none, none, none, none] = .nx [some (.z (li N)), some (.z (li W)), some (ol (hts N W N.length)), none, none, none, none, none] := set_ok (heights_in r (k + 4) rfl rfl)
    have s2 : evalS (cc (k + 5)) Wf (.set 3 (.idx 2 (.blt .max1 (.cons (.v 2) .nil)))) [some (.z (li N)), some (.z (li W)), some (ol (hts N W N.length)), none, none, none, none, none] = .nx [some (.z (li N)), some (.z (li W)), some (ol (hts N W N.length)), some (zi p), none, none, none, none] := by
      have mx := See.max (C := cc (k + 5)) (e := [some (.z (li N)), some (.z (li W)), some (ol (hts N W N.length)), none, none, none, none, none]) (i := 2) (See.l rfl) r.hmax
      have sn : seen [some (.z (li N)), some (.z (li W)), some (ol (hts N W N.length)), none, none, none, none, none] 2 = .ok (li (hts N W N.length)) [some (.z (li N)), some (.z (li W)), some (ol (hts N W N.length)), none, none, none, none, none] := by
        show (if (ol (hts N W N.length)).flat then _ else _) = _
        rw [flat_ol, if_pos rfl, toD_ol]
      have e : evalE (cc (k + 5)) (.idx 2 (.blt .max1 (.cons (.v 2) .nil))) [some (.z (li N)), some (.z (li W)), some (ol (hts N W N.length)), none, none, none, none, none] = .ok (zi p) [some (.z (li N)), some (.z (li W)), some (ol (hts N W N.length)), none, none, none, none, none] := by
        rw [evalE, sn]
        simp only [RF.R.bind_ok, mx]
        rw [hM, idx_li mm, hq]
        rfl
      exact set_ok e
    have s3 : evalS (cc (k + 5)) Wf (.set 4 (.lst (.cons (.v 3) .nil))) [some (.z (li N)), some (.z (li W)), some (ol (hts N W N.length)), some (zi p), none, none, none, none] = .nx (enK N W p [p] none none none) := set_ok (lst1_ok (ev_v rfl))
    have s4 : evalS (cc (k + 5)) Wf (.whl tsK bdK) (enK N W p [p] none none none) = .nx (enK N W P F x y none) := by rw [evalS]; exact h1
    have s5 : evalE (cc (k + 5)) (.rev (.v 4)) (enK N W P F x y none) = .ok (ol (pl F.reverse)) (enK N W P F x y none) := by
      rw [evalE, See.view (xs := pl F) (See.l rfl)]
      simp only [RF.R.bind_ok]
      rw [← List.map_reverse, ← zi_map, pl, ← List.map_reverse]
      rfl
    rw [nxt (expr_ok (weighed_in r k rfl rfl)), nxt s1, nxt s2, nxt s3, nxt s4, nxr (ret_ok (by intro i z; cases z) s5)]
    rfl
end
end K34
/-! K34u: what is a lot; the places' numbers; copies. -/
namespace K34
open RF
theorem rt1 {m f i : Nat} {d : D} {o : O} {e : RF.Env} (hc : g m f [.z d] = ret o) (hs : (cc m).sig f = [false]) (hi : getE e i = some (.z d)) (cl : o.clean = true) : evalE (cc m) (.call true f (.cons (.v i) .nil)) e = .ok o e := call_rt [d] hs (args1 hi) hc cl
theorem rt2 {m f i j : Nat} {a b : D} {o : O} {e : RF.Env} (hc : g m f [.z a, .z b] = ret o) (hs : (cc m).sig f = [false, false]) (hi : getE e i = some (.z a)) (hj : getE e j = some (.z b)) (cl : o.clean = true) : evalE (cc m) (.call true f (.cons (.v i) (.cons (.v j) .nil))) e = .ok o e := call_rt [a, b] hs (args2 hi hj) hc cl
theorem pl_len (P : List Nat) : (pl P).length = P.length := by simp [pl]
theorem pl_nth {P : List Nat} {j : Nat} (h : j < P.length) : nth (pl P) j = ((P[j]'h : Nat) : Int) := by
  simp [nth, pl, List.getD, h]
theorem below_eq (k : Nat) (i n : Int) : g (k + 2) f__law_is_below [zi i, zi n] = ret (zb (decide (0 ≤ i) && decide (i < n))) := by
  have w := whole2_eq k 0 (d := .int i) (by simp [Gd])
  rw [at__law_is_below, run_eq (h := rfl)]
  show RF.finish [false, false] (evalSs (cc (k + 1)) Wf (.cons (.ret (.and (.cons (.call true f__law_is_whole (.cons (.v 0) .nil)) (.cons (.cmp2 .le .lt (.n 0) (.v 0) (.v 1)) .nil)))) .nil) [some (zi i), some (zi n)]) = _
  rw [nxr (ret_ok (by intro i z; cases z) (and2_ok (rt1 w (sg__law_is_whole _) rfl rfl) (cmp2_ok ev_n (ev_v rfl) (ev_v rfl) rfl rfl)))]
  rfl
section
variable {N W : List Int} {P : List Nat}
theorem pair_at {R : Nat → Nat → Prop} (h : P.Pairwise R) {j : Nat} (hj : j + 1 < P.length) : R (P[j]'(by omega)) P[j + 1] := List.pairwise_iff_getElem.mp h j (j + 1) (by omega) hj (Nat.lt_succ_self j)
theorem lot_eq (k n : Nat) (hup : P.Pairwise fun i j => i < j) (hlt : ∀ i ∈ P, i < n) (hl : P.length < 1000) : g (k + 3) f__law_is_lot [zi n, .z (li (pl P))] = ret (zb true) := by
  rw [at__law_is_lot, run_eq (h := rfl)]
  let e : RF.Env := [some (zi n), some (.z (li (pl P))), none, none]
  have s1 : evalE (cc (k + 2)) (.comp (.v 2) (.nm 2) (.seq (.v 1)) (.some (.not (.call true f__law_is_below (.cons (.v 2) (.cons (.v 0) .nil))))) [2]) e = .ok (.l []) e := by
    refine comp_nil (pl P) (fun x => D.int x) (it_seq (ev_v rfl) rfl) (fun x hx => ⟨[some (zi n), some (.z (li (pl P))), some (zi x), none], rfl, ?_, rfl⟩) (by rw [pl_len]; omega) rfl
    have b := below_eq k x n
    obtain ⟨i, hi, rfl⟩ := List.mem_map.mp hx
    have := hlt i hi
    rw [decide_eq_true (show (0 : Int) ≤ (i : Int) by omega), decide_eq_true (show (i : Int) < (n : Int) by omega)] at b
    exact not_ok (rt2 b (sg__law_is_below _) rfl rfl rfl)
  have s2 : evalE (cc (k + 2)) (.comp (.v 3) (.nm 3) (.rng2 (.n 1) (.blt .len (.cons (.v 1) .nil))) (.some (.cmp .ge (.ix (.v 1) (.bin .sub (.v 3) (.n 1))) (.ix (.v 1) (.v 3)))) [3]) e = .ok (.l []) e := by
    refine comp_nil (List.range (P.length - 1)) (fun (j : Nat) => D.int (1 + j : Nat)) ?_ (fun j hj => ⟨[some (zi n), some (.z (li (pl P))), none, some (zi ((1 + j : Nat) : Int))], rfl, ?_, rfl⟩) (by rw [List.length_range]; omega) rfl
    · have l := See.len (C := cc (k + 2)) (e := e) (i := 1) (See.z rfl)
      rw [pl_len] at l
      exact it_rng2 (m := 1) (n := P.length) (by decide) (by omega) ev_n l
    · have hj := List.mem_range.mp hj
      have a : evalE (cc (k + 2)) (.bin .sub (.v 3) (.n 1)) [some (zi n), some (.z (li (pl P))), none, some (zi ((1 + j : Nat) : Int))] = .ok (zi (j : Int)) [some (zi n), some (.z (li (pl P))), none, some (zi ((1 + j : Nat) : Int))] := by
        rw [sub_ok (ev_v rfl) ev_n]
        congr 3
        omega
      have c := ge_ok (See.ix (i := 1) (xs := pl P) (See.z rfl) rfl a (by rw [pl_len]; omega)) (See.ix (i := 1) (xs := pl P) (j := 1 + j) (See.z rfl) rfl (ev_v (i := 3) rfl) (by rw [pl_len]; omega))
      have := pair_at hup (j := j) (by omega)
      rw [pl_nth (by omega), pl_nth (by omega)] at c
      rw [decide_eq_false (by simp only [Nat.add_comm 1 j]; omega)] at c
      exact c
  show RF.finish [false, false] (evalSs (cc (k + 2)) Wf (.cons (.ite (.or (.cons (.not (.isi .list (.v 1))) (.cons (.cmp .ne _ (.lst .nil)) .nil))) (.cons (.ret (.tt false)) .nil) .nil) (.cons (.ret (.cmp .eq _ (.lst .nil))) .nil)) e) = _
  rw [nxt (ite_ff (or2_ok (x := false) (y := false) (not_ok (b := true) (isi_ok (ev_v rfl) rfl)) (nen_f s1))), nxr (ret_ok (by intro i z; cases z) (eqn_t s2))]
  rfl
end
/-! ### copies -/
theorem copied_int (k : Nat) (i : Int) : g (k + 1) f__law_copied [zi i] = ret (zi i) := rfl
theorem copied_li (k : Nat) (xs : List Int) (hl : xs.length < 1000) : g (k + 2) f__law_copied [.z (li xs)] = ret (ol xs) := by
  rw [at__law_copied, run_eq (h := rfl)]
  let e : RF.Env := [some (.z (li xs)), none]
  have s : evalE (cc (k + 1)) (.comp (.call true f__law_copied (.cons (.v 1) .nil)) (.nm 1) (.seq (.v 0)) .none [1]) e = .ok (.l (xs.map zi)) e :=
    ev_compA xs (fun x => D.int x) zi (it_seq (ev_v rfl) rfl) (fun x hx => ⟨[some (.z (li xs)), some (zi x)], rfl, rt1 (copied_int k x) (sg__law_copied _) rfl rfl, rfl⟩) (by omega) rfl (fun _ _ => rfl)
  show RF.finish [false] (evalSs (cc (k + 1)) Wf (.cons (.ite (.isi .list (.v 0)) (.cons (.ret _) .nil) .nil) _) e) = _
  rw [nxr (ite_tr (isi_ok (ev_v rfl) rfl) (by intro i z; cases z) s)]
  rfl
theorem copied_2 (k : Nat) (xs ys : List Int) (hl : xs.length < 1000) (hl2 : ys.length < 1000) : g (k + 3) f__law_copied [.z (.lst [li xs, li ys])] = ret (.l [ol xs, ol ys]) := by
  rw [at__law_copied, run_eq (h := rfl)]
  let e : RF.Env := [some (.z (.lst [li xs, li ys])), none]
  have s : evalE (cc (k + 2)) (.comp (.call true f__law_copied (.cons (.v 1) .nil)) (.nm 1) (.seq (.v 0)) .none [1]) e = .ok (.l ([xs, ys].map ol)) e :=
    ev_compA [xs, ys] li ol (it_seq (ev_v rfl) rfl) (fun x hx => ⟨[some (.z (.lst [li xs, li ys])), some (.z (li x))], rfl, rt1 (copied_li k x (by
      rcases List.mem_cons.mp hx with rfl | hx
      · exact hl
      · rw [List.mem_singleton.mp hx]; exact hl2)) (sg__law_copied _) rfl (clean_ol x), rfl⟩) (by simp) rfl (fun x _ => clean_ol x)
  show RF.finish [false] (evalSs (cc (k + 2)) Wf (.cons (.ite (.isi .list (.v 0)) (.cons (.ret _) .nil) .nil) _) e) = _
  rw [nxr (ite_tr (isi_ok (ev_v rfl) rfl) (by intro i z; cases z) s)]
  rfl
end K34
/-! K34v: the order of a row: who stands before whom. -/
namespace K34
open RF
/-- a table of truths -/
abbrev mrow (n : Nat) (F : Nat → Bool) : O := .l ((List.range n).map fun o => zb (F o))
abbrev mat (n : Nat) (F : Nat → Nat → Bool) : O := .l ((List.range n).map fun r => mrow n (F r))
theorem mrow_congr {n : Nat} {F G : Nat → Bool} (h : ∀ o < n, F o = G o) : mrow n F = mrow n G := congrArg O.l (List.map_congr_left fun o ho => by rw [h o (List.mem_range.mp ho)])
theorem mat_congr {n : Nat} {F G : Nat → Nat → Bool} (h : ∀ r < n, ∀ o < n, F r o = G r o) : mat n F = mat n G := congrArg O.l (List.map_congr_left fun r hr => mrow_congr (h r (List.mem_range.mp hr)))
theorem clean_mrow (n : Nat) (F : Nat → Bool) : (mrow n F).clean = true := by
  simp only [O.clean]
  rw [O.cleans_all, List.all_eq_true]
  intro o ho
  obtain ⟨j, _, rfl⟩ := List.mem_map.mp ho
  rfl
theorem clean_mat (n : Nat) (F : Nat → Nat → Bool) : (mat n F).clean = true := by
  simp only [O.clean]
  rw [O.cleans_all, List.all_eq_true]
  intro o ho
  obtain ⟨j, _, rfl⟩ := List.mem_map.mp ho
  exact clean_mrow n (F j)
theorem toD_mrow (n : Nat) (F : Nat → Bool) : (mrow n F).toD = .lst ((List.range n).map fun o => D.bl (F o)) := by
  simp only [O.toD]
  rw [O.toDs_map, List.map_map]
  rfl
theorem toD_mat (n : Nat) (F : Nat → Nat → Bool) : (mat n F).toD = .lst ((List.range n).map fun r => .lst ((List.range n).map fun o => D.bl (F r o))) := by
  simp only [O.toD]
  rw [O.toDs_map, List.map_map]
  congr 1
  apply List.map_congr_left
  intro r _
  exact toD_mrow n (F r)
theorem atI_map {n j : Nat} (f : Nat → D) (h : j < n) : L2.atI ((List.range n).map f) (j : Int) = some (f j) := by
  rw [atI_nat, List.getElem?_map, List.getElem?_range h]; rfl
theorem ix2_ok {C : Cfg} {e : RF.Env} {i n t c : Nat} {a b : RF.X} {F : Nat → Nat → Bool} (hi : getE e i = some (mat n F)) (ha : evalE C a e = .ok (zi t) e) (hb : evalE C b e = .ok (zi c) e) (ht : t < n) (hc : c < n) : evalE C (.ix2 i a b) e = .ok (zb (F t c)) e := by
  rw [evalE, hi]
  simp only [ha, RF.R.bind_ok, toD_mat]
  simp only [ix1V, atI_map (fun r => D.lst ((List.range n).map fun o => D.bl (F r o))) ht, hb, RF.R.bind_ok, ix1L, atI_map (fun o => D.bl (F t o)) hc]
  rfl
/-- a row is set -/
theorem mat_set {n t : Nat} {F : Nat → Nat → Bool} {G : Nat → Bool} : ((List.range n).map fun r => mrow n (F r)).set t (mrow n G) = (List.range n).map fun r => mrow n (if r = t then G else F r) := by
  apply List.ext_getElem
  · simp
  · intro j h1 h2
    simp only [List.getElem_set, List.getElem_map, List.getElem_range]
    by_cases e : t = j
    · rw [if_pos e, if_pos e.symm]
    · rw [if_neg e, if_neg (fun z => e z.symm)]
/-- behind k middles -/
def Rk (k i j : Nat) : Bool := decide (i < j) && (decide (j = i + 1) || decide (j ≤ k))
def RkT (k t i j : Nat) : Bool := if i < t then Rk (k + 1) i j else Rk k i j
theorem rk_step {k t o : Nat} (h : t < k) : (Rk k t o || Rk k k o) = Rk (k + 1) t o := by
  simp only [Rk]
  rw [Bool.eq_iff_iff]
  simp
  omega
theorem rk_same {k t o : Nat} (h : k ≤ t) : Rk k t o = Rk (k + 1) t o := by
  simp only [Rk]
  rw [Bool.eq_iff_iff]
  simp
  omega
theorem rk_mid {k t : Nat} : Rk k t k = decide (t < k) := by
  simp only [Rk]
  rw [Bool.eq_iff_iff]
  simp
/-! ### the order of a row -/
abbrev tp (i j : Nat) : D := .tup [.int i, .int j]
abbrev ordD (n : Nat) : D := .lst ((List.range (n - 1)).map fun i => tp i (i + 1))
theorem eqv_tp (i j k l : Nat) : D.eqv (tp i j) (tp k l) = (decide (i = k) && decide (j = l)) := by
  rw [Bool.eq_iff_iff]
  simp [D.eqv, D.py, D.pys, PySem.PyData.eqv, PySem.PyData.eqvAll]
  omega
theorem ok_tp (i j n : Nat) : (tp i j).ok (n + 1) = true := by simp [D.ok]
theorem mem_ord (n i j : Nat) (hi : i < n) (hj : j < n) : cmpop .mem (tp i j) (ordD n) = some (Rk 0 i j) := by
  have h1 : (tp i j).ok 60 = true := ok_tp i j 59
  have h2 : (ordD n).ok 60 = true := by
    simp only [ordD, D.ok, List.all_eq_true]
    intro d hd
    obtain ⟨a, _, rfl⟩ := List.mem_map.mp hd
    exact ok_tp a (a + 1) 58
  simp only [cmpop, h1, h2, Bool.and_self, if_true]
  congr 1
  rw [Bool.eq_iff_iff, List.any_eq_true]
  constructor
  · rintro ⟨d, hd, q⟩
    obtain ⟨a, ha, rfl⟩ := List.mem_map.mp hd
    rw [eqv_tp] at q
    simp [Rk] at q ⊢
    omega
  · intro q
    refine ⟨tp i (i + 1), List.mem_map.mpr ⟨i, List.mem_range.mpr ?_, rfl⟩, ?_⟩
    · simp [Rk] at q; omega
    · rw [eqv_tp]
      simp [Rk] at q ⊢
      omega
abbrev cxR : RF.X := .comp (.cmp .mem (.tup (.cons (.v 4) (.cons (.v 3) .nil))) (.v 1)) (.nm 3) (.rng1 (.v 0)) .none [3]
abbrev enR (n : Nat) (m a b c : Option O) : RF.Env := [some (zi n), some (.z (ordD n)), m, a, b, c]
theorem tup2_ok {C : Cfg} {a b : RF.X} {e : RF.Env} {x y : D} (ha : evalE C a e = .ok (.z x) e) (hb : evalE C b e = .ok (.z y) e) : evalE C (.tup (.cons a (.cons b .nil))) e = .ok (.z (.tup [x, y])) e := by
  rw [evalE, evalEs, ha]
  simp only [RF.R.bind_ok]
  rw [evalEs, hb]
  simp only [RF.R.bind_ok]
  rw [evalEs]
  rfl
theorem cxR_eq (m n i : Nat) (hn : n < 1000) (hi : i < n) : evalE (cc m) cxR (enR n none none (some (zi i)) none) = .ok (mrow n (Rk 0 i)) (enR n none none (some (zi i)) none) :=
  ev_compA (List.range n) (fun (j : Nat) => D.int j) (fun j => zb (Rk 0 i j)) (it_rngN (by omega) (ev_v rfl)) (fun j hj => ⟨enR n none (some (zi j)) (some (zi i)) none, rfl, cmp_ok (tup2_ok (ev_v rfl) (ev_v rfl)) (ev_v rfl) (mem_ord n i j hi (List.mem_range.mp hj)), rfl⟩) (by rw [List.length_range]; omega) rfl (fun _ _ => rfl)
theorem cxR2_eq (m n : Nat) (hn : n < 1000) : evalE (cc m) (.comp cxR (.nm 4) (.rng1 (.v 0)) .none [4]) (enR n none none none none) = .ok (mat n (Rk 0)) (enR n none none none none) :=
  ev_compA (List.range n) (fun (j : Nat) => D.int j) (fun i => mrow n (Rk 0 i)) (it_rngN (by omega) (ev_v rfl)) (fun i hi => ⟨enR n none none (some (zi i)) none, rfl, cxR_eq m n i hn (List.mem_range.mp hi), rfl⟩) (by rw [List.length_range]; omega) rfl (fun i _ => clean_mrow n _)
abbrev cxR3 : RF.X := .comp (.or (.cons (.ix2 2 (.v 4) (.v 3)) (.cons (.ix2 2 (.v 5) (.v 3)) .nil))) (.nm 3) (.rng1 (.v 0)) .none [3]
theorem cxR3_eq (m n t k : Nat) (F : Nat → Nat → Bool) (hn : n < 1000) (ht : t < n) (hk : k < n) : evalE (cc m) cxR3 (enR n (some (mat n F)) none (some (zi t)) (some (zi k))) = .ok (mrow n fun o => F t o || F k o) (enR n (some (mat n F)) none (some (zi t)) (some (zi k))) :=
  ev_compA (List.range n) (fun (j : Nat) => D.int j) (fun o => zb (F t o || F k o)) (it_rngN (by omega) (ev_v rfl)) (fun o ho => ⟨enR n (some (mat n F)) (some (zi o)) (some (zi t)) (some (zi k)), rfl, or2_ok (ix2_ok rfl (ev_v rfl) (ev_v rfl) ht (List.mem_range.mp ho)) (ix2_ok rfl (ev_v rfl) (ev_v rfl) hk (List.mem_range.mp ho)), rfl⟩) (by rw [List.length_range]; omega) rfl (fun _ _ => rfl)
abbrev bdR1 : Ss := .cons (.ite (.ix2 2 (.v 4) (.v 5)) (.cons (.sto 2 (.v 4) cxR3) .nil) .nil) .nil
theorem sto_ok {C : Cfg} {Wx i j : Nat} {k x : RF.X} {e : RF.Env} {o : O} {os : List O} (hi : getE e i = some (.l os)) (hx : evalE C x e = .ok o e) (hk : evalE C k e = .ok (zi j) e) (hj : j < os.length) : evalS C Wx (.sto i k x) e = .nx (e.set i (some (.l (os.set j o)))) := by
  have q : L2.ixN os.length (j : Int) = some j := by
    unfold L2.ixN
    rw [if_pos (Int.natCast_nonneg j), if_pos (by omega)]
    simp
  rw [evalS, hx]
  simp only [Out.ofR_ok, hi, hk, q]
theorem bdR1_eq (m n t k : Nat) (hn : n < 1000) (ht : t < n) (hk : k < n) : evalSs (cc m) Wf bdR1 (enR n (some (mat n (RkT k t))) none (some (zi t)) (some (zi k))) = .nx (enR n (some (mat n (RkT k (t + 1)))) none (some (zi t)) (some (zi k))) := by
  have c : evalE (cc m) (.ix2 2 (.v 4) (.v 5)) (enR n (some (mat n (RkT k t))) none (some (zi t)) (some (zi k))) = .ok (zb (decide (t < k))) (enR n (some (mat n (RkT k t))) none (some (zi t)) (some (zi k))) := by
    have := ix2_ok (C := cc m) (e := enR n (some (mat n (RkT k t))) none (some (zi t)) (some (zi k))) (i := 2) (a := .v 4) (b := .v 5) (F := RkT k t) rfl (ev_v rfl) (ev_v rfl) ht hk
    rw [show RkT k t t k = decide (t < k) from by rw [RkT, if_neg (Nat.lt_irrefl t), rk_mid]] at this
    exact this
  rw [evalSs, st_ite c]
  by_cases q : t < k
  · rw [decide_eq_true q, if_pos rfl]
    have s : evalS (cc m) Wf (.sto 2 (.v 4) cxR3) (enR n (some (mat n (RkT k t))) none (some (zi t)) (some (zi k))) = .nx (enR n (some (mat n (RkT k (t + 1)))) none (some (zi t)) (some (zi k))) := by
      rw [sto_ok (os := (List.range n).map fun r => mrow n (RkT k t r)) (i := 2) rfl (cxR3_eq m n t k (RkT k t) hn ht hk) (ev_v rfl) (by simpa using ht), mat_set]
      show Out.nx (enR n (some (.l _)) _ _ _) = _
      congr 2
      congr 1
      congr 1
      apply List.map_congr_left
      intro r hr
      apply mrow_congr
      intro o ho
      by_cases e : r = t
      · subst e
        rw [if_pos rfl]
        simp only [RkT, Nat.lt_irrefl, if_false, if_neg (show ¬ k < r by omega), if_pos (Nat.lt_succ_self r)]
        exact rk_step q
      · rw [if_neg e]
        simp only [RkT]
        by_cases e2 : r < t
        · rw [if_pos e2, if_pos (by omega)]
        · rw [if_neg e2, if_neg (by omega)]
    rw [nxt s, nx0]
    exact nx0
  · rw [decide_eq_false q, if_neg Bool.false_ne_true, nx0]
    show evalSs _ _ .nil _ = _
    rw [nx0, mat_congr (F := RkT k t) (G := RkT k (t + 1))]
    intro r hr o ho
    simp only [RkT]
    by_cases e : r < t
    · rw [if_pos e, if_pos (by omega)]
    · rw [if_neg e]
      by_cases e2 : r < t + 1
      · rw [if_pos e2]; exact rk_same (by omega)
      · rw [if_neg e2]
theorem forR1_eq (m n k : Nat) (x : Option O) (hn : n < 1000) (hk : k < n) : ∃ x', evalS (cc m) Wf (.for (.nm 4) (.rng1 (.v 0)) bdR1) (enR n (some (mat n (Rk k))) none x (some (zi k))) = .nx (enR n (some (mat n (Rk (k + 1)))) none x' (some (zi k))) := by
  obtain ⟨e', h1, x', h2⟩ := ev_for (t := .nm 4) (body := fun e => evalSs (cc m) Wf bdR1 e) (q := fun (j : Nat) => D.int j)
    (fun t e => ∃ x', e = enR n (some (mat n (RkT k t))) none x' (some (zi k))) (xs := List.range n) (k := 0) (e := enR n (some (mat n (Rk k))) none x (some (zi k))) ⟨x, by rw [mat_congr (F := Rk k) (G := RkT k 0) (fun r _ o _ => by simp [RkT])]⟩ (fun j x e hj ⟨a, he⟩ => by
      obtain ⟨h, rfl⟩ := List.getElem?_eq_some_iff.mp hj
      simp only [List.length_range] at h
      simp only [List.getElem_range, Nat.zero_add] at he ⊢
      subst he
      exact ⟨enR n (some (mat n (RkT k j))) none (some (zi j)) (some (zi k)), _, rfl, bdR1_eq m n j k hn h hk, _, rfl⟩)
  rw [Nat.zero_add, List.length_range] at h2
  subst h2
  refine ⟨x', ?_⟩
  rw [for_ok (it_rngN (by omega) (ev_v rfl)) h1, mat_congr (F := RkT k n) (G := Rk (k + 1))]
  intro r hr o ho
  rw [RkT, if_pos hr]
theorem reach_eq (k n : Nat) (hn : n < 1000) : g (k + 1) f_reach_of [zi n, .z (ordD n)] = ret (mat n fun i j => decide (i < j)) := by
  rw [at_reach_of, run_eq (h := rfl)]
  show RF.finish [false, false] (evalSs (cc k) Wf (.cons (.set 2 (.comp cxR (.nm 4) (.rng1 (.v 0)) .none [4])) (.cons (.for (.nm 5) (.rng1 (.v 0)) (.cons (.for (.nm 4) (.rng1 (.v 0)) bdR1) .nil)) (.cons (.ret (.v 2)) .nil))) (enR n none none none none)) = _
  have s1 : evalS (cc k) Wf (.set 2 (.comp cxR (.nm 4) (.rng1 (.v 0)) .none [4])) (enR n none none none none) = .nx (enR n (some (mat n (Rk 0))) none none none) := set_ok (cxR2_eq k n hn)
  obtain ⟨e', h1, x, y, h2⟩ := ev_for (t := .nm 5) (body := fun e => evalSs (cc k) Wf (.cons (.for (.nm 4) (.rng1 (.v 0)) bdR1) .nil) e) (q := fun (j : Nat) => D.int j)
    (fun j e => ∃ x y, e = enR n (some (mat n (Rk j))) none x y) (xs := List.range n) (k := 0) (e := enR n (some (mat n (Rk 0))) none none none) ⟨none, none, rfl⟩ (fun j x e hj ⟨a, b, he⟩ => by
      obtain ⟨h, rfl⟩ := List.getElem?_eq_some_iff.mp hj
      simp only [List.length_range] at h
      simp only [List.getElem_range, Nat.zero_add] at he ⊢
      subst he
      obtain ⟨x', q⟩ := forR1_eq k n j a hn h
      exact ⟨enR n (some (mat n (Rk j))) none a (some (zi j)), _, rfl, by rw [nxt q, nx0], x', _, rfl⟩)
  rw [Nat.zero_add, List.length_range] at h2
  subst h2
  rw [nxt s1, nxt (for_ok (it_rngN (by omega) (ev_v rfl)) h1), nxr (retv rfl), mat_congr (F := Rk n) (G := fun i j => decide (i < j))]
  · rfl
  · intro r hr o ho
    simp only [Rk]
    rw [Bool.eq_iff_iff]
    simp
    omega
end K34
/-! K34w: the checks of an order; pairs, falls, what keeps. -/
namespace K34
open RF
theorem ix_tup {C : Cfg} {e : RF.Env} {i j : Nat} {b : RF.X} {ds : List D} {d : D} (h : getE e i = some (.z (.tup ds))) (hb : evalE C b e = .ok (zi j) e) (hj : ds[j]? = some d) : evalE C (.ix (.v i) b) e = .ok (.z d) e := by
  rw [evalE]
  simp only [viewE, h, RF.R.bind_ok, hb, atI_nat, hj]
  rfl
theorem ix_lst {C : Cfg} {e : RF.Env} {i j : Nat} {b : RF.X} {ds : List D} {d : D} (h : getE e i = some (.z (.lst ds))) (hb : evalE C b e = .ok (zi j) e) (hj : ds[j]? = some d) : evalE C (.ix (.v i) b) e = .ok (.z d) e := by
  rw [evalE]
  simp only [viewE, h, RF.R.bind_ok, hb, atI_nat, hj]
  rfl
theorem and3_ok {C : Cfg} {a b c : RF.X} {e : RF.Env} {x y z : Bool} (ha : evalE C a e = .ok (zb x) e) (hb : evalE C b e = .ok (zb y) e) (hc : evalE C c e = .ok (zb z) e) : evalE C (.and (.cons a (.cons b (.cons c .nil)))) e = .ok (zb (x && (y && z))) e := by
  rw [evalE]
  cases x with
  | false => rw [and_f ha]; rfl
  | true =>
    rw [and_t ha]
    have := and2_ok hb hc
    rw [evalE] at this
    exact this
theorem count_int (k : Nat) (i : Int) : g (k + 2) f_is_count [zi i] = ret (zb (decide (0 ≤ i))) := by
  have w := whole_eq k 0 (d := .int i) (by simp [Gd])
  rw [at_is_count, run_eq (h := rfl)]
  show RF.finish [false] (evalSs (cc (k + 1)) Wf (.cons (.ret (.and (.cons (.call true f_is_whole (.cons (.v 0) .nil)) (.cons (.cmp .ge (.v 0) (.n 0)) .nil)))) .nil) [some (zi i)]) = _
  rw [nxr (ret_ok (by intro i z; cases z) (and2_ok (rt1 w (sg_is_whole _) rfl rfl) (ge_ok (ev_v rfl) ev_n)))]
  rfl
theorem below_int (k : Nat) (i n : Int) : g (k + 3) f_is_below [zi i, zi n] = ret (zb (decide (0 ≤ i) && decide (i < n))) := by
  rw [at_is_below, run_eq (h := rfl)]
  show RF.finish [false, false] (evalSs (cc (k + 2)) Wf (.cons (.ret (.and (.cons (.call true f_is_count (.cons (.v 0) .nil)) (.cons (.cmp .lt (.v 0) (.v 1)) .nil)))) .nil) [some (zi i), some (zi n)]) = _
  rw [nxr (ret_ok (by intro i z; cases z) (and2_ok (rt1 (count_int k i) (sg_is_count _) rfl rfl) (lt_ok (ev_v rfl) (ev_v rfl))))]
  rfl
theorem pair_eq (k n i j : Nat) (hi : i < n) (hj : j < n) (ne : i ≠ j) : g (k + 4) f_is_pair [zi n, .z (tp i j)] = ret (zb true) := by
  rw [at_is_pair, run_eq (h := rfl)]
  let e : RF.Env := [some (zi n), some (.z (tp i j))]
  have a0 : evalE (cc (k + 3)) (.ix (.v 1) (.n 0)) e = .ok (zi i) e := ix_tup (j := 0) rfl ev_n rfl
  have a1 : evalE (cc (k + 3)) (.ix (.v 1) (.n 1)) e = .ok (zi j) e := ix_tup (j := 1) rfl ev_n rfl
  have b0 : evalE (cc (k + 3)) (.call true f_is_below (.cons (.ix (.v 1) (.n 0)) (.cons (.v 0) .nil))) e = .ok (zb true) e := by
    have b := below_int k i n
    rw [decide_eq_true (show (0 : Int) ≤ (i : Int) by omega), decide_eq_true (show (i : Int) < (n : Int) by omega)] at b
    exact call_rt [.int i, .int n] (sg_is_below _) (arg_c a0 (arg_c (ev_v rfl) arg_0)) b rfl
  have b1 : evalE (cc (k + 3)) (.call true f_is_below (.cons (.ix (.v 1) (.n 1)) (.cons (.v 0) .nil))) e = .ok (zb true) e := by
    have b := below_int k j n
    rw [decide_eq_true (show (0 : Int) ≤ (j : Int) by omega), decide_eq_true (show (j : Int) < (n : Int) by omega)] at b
    exact call_rt [.int j, .int n] (sg_is_below _) (arg_c a1 (arg_c (ev_v rfl) arg_0)) b rfl
  have s1 : evalE (cc (k + 3)) (.or (.cons (.not (.isi .tuple (.v 1))) (.cons (.cmp .ne (.blt .len (.cons (.v 1) .nil)) (.n 2)) .nil))) e = .ok (zb false) e :=
    or2_ok (x := false) (y := false) (not_ok (b := true) (isi_ok (ev_v rfl) rfl)) (ne_ok (x := 2) (y := 2) (blv_ok (vs1 (ev_v rfl)) rfl) ev_n)
  have n1 := ne_ok a0 a1
  rw [decide_eq_false (by omega)] at n1
  show RF.finish [false, false] (evalSs (cc (k + 3)) Wf (.cons (.ite _ (.cons (.ret (.tt false)) .nil) .nil) (.cons (.ret (.and _)) .nil)) e) = _
  rw [nxt (ite_ff s1), nxr (ret_ok (by intro i z; cases z) (and3_ok b0 b1 n1))]
  rfl
theorem ord_at {n j : Nat} (h : j < n - 1) : ((List.range (n - 1)).map fun i => tp i (i + 1))[j]? = some (tp j (j + 1)) := by
  rw [List.getElem?_map, List.getElem?_range h]; rfl
theorem order_eq (k n : Nat) (hn : n < 1000) : g (k + 5) f_is_order_of [zi n, .z (ordD n)] = ret (zb true) := by
  rw [at_is_order_of, run_eq (h := rfl)]
  let e : RF.Env := [some (zi n), some (.z (ordD n)), none, none, none, none]
  let e2 : RF.Env := [some (zi n), some (.z (ordD n)), none, none, some (mat n fun i j => decide (i < j)), none]
  have c1 : evalE (cc (k + 4)) (.comp (.v 2) (.nm 2) (.seq (.v 1)) (.some (.not (.call true f_is_pair (.cons (.v 0) (.cons (.v 2) .nil))))) [2]) e = .ok (.l []) e :=
    comp_nil (List.range (n - 1)) (fun i => tp i (i + 1)) (it_seq (ev_v rfl) rfl) (fun i hi => ⟨[some (zi n), some (.z (ordD n)), some (.z (tp i (i + 1))), none, none, none], rfl, by
      have hi := List.mem_range.mp hi
      exact not_ok (b := true) (rt2 (pair_eq k n i (i + 1) (by omega) (by omega) (by omega)) (sg_is_pair _) rfl rfl rfl), rfl⟩) (by rw [List.length_range]; omega) rfl
  have s1 : evalE (cc (k + 4)) (.or (.cons (.not (.isi .list (.v 1))) (.cons (.cmp .ne (.comp (.v 2) (.nm 2) (.seq (.v 1)) (.some (.not (.call true f_is_pair (.cons (.v 0) (.cons (.v 2) .nil))))) [2]) (.lst .nil)) .nil))) e = .ok (zb false) e := or2_ok (x := false) (y := false) (not_ok (b := true) (isi_ok (ev_v rfl) rfl)) (nen_f c1)
  have c2 : evalE (cc (k + 4)) (.comp (.v 3) (.nm 3) (.rng2 (.n 1) (.blt .len (.cons (.v 1) .nil))) (.some (.cmp .ge (.ix (.v 1) (.bin .sub (.v 3) (.n 1))) (.ix (.v 1) (.v 3)))) [3]) e = .ok (.l []) e := by
    refine comp_nil (List.range (n - 1 - 1)) (fun (j : Nat) => D.int (1 + j : Nat)) ?_ (fun j hj => ⟨[some (zi n), some (.z (ordD n)), none, some (zi ((1 + j : Nat) : Int)), none, none], rfl, ?_, rfl⟩) (by rw [List.length_range]; omega) rfl
    · have l : evalE (cc (k + 4)) (.blt .len (.cons (.v 1) .nil)) e = .ok (zi (n - 1 : Nat)) e := blv_ok (vs1 (ev_v rfl)) (by simp [O.toD, bltV])
      exact it_rng2 (m := 1) (n := n - 1) (by decide) (by omega) ev_n l
    · have hj := List.mem_range.mp hj
      have a : evalE (cc (k + 4)) (.bin .sub (.v 3) (.n 1)) [some (zi n), some (.z (ordD n)), none, some (zi ((1 + j : Nat) : Int)), none, none] = .ok (zi (j : Int)) [some (zi n), some (.z (ordD n)), none, some (zi ((1 + j : Nat) : Int)), none, none] := by
        rw [sub_ok (ev_v rfl) ev_n]
        congr 3
        omega
      refine cmp_ok (ix_lst rfl a (ord_at (by omega))) (ix_lst (i := 1) (j := 1 + j) rfl (ev_v (i := 3) rfl) (ord_at (by omega))) ?_
      show some (RX.geP _ _ _ _) = _
      simp [RX.geP]
      omega
  have s2 := reach_eq (k + 3) n hn
  have s3 : evalS (cc (k + 4)) Wf (.set 4 (.call true f_reach_of (.cons (.v 0) (.cons (.v 1) .nil)))) e = .nx e2 := set_ok (rt2 s2 (sg_reach_of _) rfl rfl (clean_mat n _))
  have c3 : evalE (cc (k + 4)) (.comp (.v 5) (.nm 5) (.rng1 (.v 0)) (.some (.ix2 4 (.v 5) (.v 5))) [5]) e2 = .ok (.l []) e2 :=
    comp_nil (List.range n) (fun (j : Nat) => D.int j) (it_rngN (by omega) (ev_v rfl)) (fun j hj => ⟨[some (zi n), some (.z (ordD n)), none, none, some (mat n fun i j => decide (i < j)), some (zi j)], rfl, by
      have hj := List.mem_range.mp hj
      have q := ix2_ok (C := cc (k + 4)) (e := [some (zi n), some (.z (ordD n)), none, none, some (mat n fun i j => decide (i < j)), some (zi j)]) (i := 4) (a := .v 5) (b := .v 5) (F := fun i j => decide (i < j)) rfl (ev_v rfl) (ev_v rfl) hj hj
      rw [decide_eq_false (Nat.lt_irrefl j)] at q
      exact q, rfl⟩) (by rw [List.length_range]; omega) rfl
  show RF.finish [false, false] (evalSs (cc (k + 4)) Wf (.cons (.ite _ (.cons (.ret (.tt false)) .nil) .nil) (.cons (.ite (.cmp .ne _ (.lst .nil)) (.cons (.ret (.tt false)) .nil) .nil) (.cons (.set 4 _) (.cons (.ret (.cmp .eq _ (.lst .nil))) .nil)))) e) = _
  rw [nxt (ite_ff s1), nxt (ite_ff (nen_f c2)), nxt s3, nxr (ret_ok (by intro i z; cases z) (eqn_t c3))]
  rfl
section
variable {N W : List Int}
theorem ordered_eq (r : Row N W) (h12 : N.length ≤ 12) (k : Nat) : g (k + 7) f_check_ordered [.z (li N), .z (li W), .z (ordD N.length)] = ret (.z .non) := by
  have aN : areN 12 (li N) = true := by
    have := r.aN
    simp only [areN, List.length_map, Bool.and_eq_true, decide_eq_true_eq] at this ⊢
    exact ⟨⟨this.1.1, by omega⟩, this.2⟩
  have c1 : g (k + 6) f_check_numbers [.z (li N)] = ret (.z .non) := by rw [num_chk (k + 2) 1 r.gN (by decide), aN, if_pos rfl]
  have c2 : g (k + 6) f_check_weights [zi N.length, .z (li W)] = ret (.z .non) := by rw [wts_chk (k + 2) 1 N.length r.gW (by decide), r.aW, if_pos rfl]
  have c3 : g (k + 6) f_check_order [zi N.length, .z (ordD N.length)] = ret (.z .non) := by
    rw [at_check_order, run_eq (h := rfl)]
    show RF.finish [false, false] (evalSs (cc (k + 5)) Wf (.cons (.ite (.not (.call true f_is_order_of (.cons (.v 0) (.cons (.v 1) .nil)))) (.cons (.raise 2 (.v 1)) .nil) .nil) .nil) [some (zi N.length), some (.z (ordD N.length))]) = _
    have o := order_eq k N.length (by omega)
    rw [nxt (ite_ff (not_ok (b := true) (rt2 o (sg_is_order_of _) rfl rfl rfl))), nx0]
    rfl
  rw [at_check_ordered, run_eq (h := rfl)]
  let e : RF.Env := [some (.z (li N)), some (.z (li W)), some (.z (ordD N.length))]
  have s1 : evalE (cc (k + 6)) (.call true f_check_numbers (.cons (.v 0) .nil)) e = .ok (.z .non) e := rt1 c1 (sg_check_numbers _) rfl rfl
  have l : evalE (cc (k + 6)) (.blt .len (.cons (.v 0) .nil)) e = .ok (zi N.length) e := See.len (See.z rfl)
  have s2 : evalE (cc (k + 6)) (.call true f_check_weights (.cons (.blt .len (.cons (.v 0) .nil)) (.cons (.v 1) .nil))) e = .ok (.z .non) e := call_rt [.int N.length, li W] (sg_check_weights _) (arg_c l (arg_c (ev_v rfl) arg_0)) c2 rfl
  have s3 : evalE (cc (k + 6)) (.call true f_check_order (.cons (.blt .len (.cons (.v 0) .nil)) (.cons (.v 2) .nil))) e = .ok (.z .non) e := call_rt [.int N.length, ordD N.length] (sg_check_order _) (arg_c l (arg_c (ev_v rfl) arg_0)) c3 rfl
  show RF.finish [false, false, false] (evalSs (cc (k + 6)) Wf (.cons (.expr _) (.cons (.expr _) (.cons (.expr _) .nil))) e) = _
  rw [nxt (expr_ok s1), nxt (expr_ok s2), nxt (expr_ok s3), nx0]
  rfl
end
end K34
/-! K34x: all pairs, falls, what keeps. -/
namespace K34
open RF
theorem rtn {m f : Nat} {es : Xs} {e e1 : RF.Env} {o : O} (ds : List D) (hs : (cc m).sig f = List.replicate ds.length false) (h : evalArgs (cc m) es (List.replicate ds.length false) e = .ok (ds.map .val) e1) (hc : g m f (ds.map .z) = ret o) (cl : o.clean = true) : evalE (cc m) (.call true f es) e = .ok o e := call_rt ds hs h hc cl
def pairsN (n : Nat) : Nat → List (Nat × Nat)
  | 0 => []
  | t + 1 => pairsN n t ++ ((List.range n).filter fun o => decide (t < o)).map fun o => (t, o)
theorem pairsN_mem {n t : Nat} {p : Nat × Nat} : p ∈ pairsN n t ↔ p.1 < t ∧ p.1 < p.2 ∧ p.2 < n := by
  induction t with
  | zero => simp [pairsN]
  | succ t ih =>
    rw [pairsN, List.mem_append, ih, List.mem_map]
    constructor
    · rintro (h | ⟨o, ho, rfl⟩)
      · omega
      · have := List.mem_filter.mp ho
        simp at this
        simp; omega
    · intro h
      by_cases e : p.1 = t
      · right
        exact ⟨p.2, List.mem_filter.mpr ⟨List.mem_range.mpr h.2.2, by simp; omega⟩, by rw [← e]⟩
      · left; omega
theorem pairsN_len (n t : Nat) : (pairsN n t).length ≤ t * n := by
  induction t with
  | zero => simp [pairsN]
  | succ t ih =>
    rw [pairsN, List.length_append, List.length_map, Nat.succ_mul]
    have := List.length_filter_le (fun o => decide (t < o)) (List.range n)
    rw [List.length_range] at this
    omega
abbrev ptD (ps : List (Nat × Nat)) : List D := ps.map fun p => tp p.1 p.2
abbrev ptO (ps : List (Nat × Nat)) : O := .l ((ptD ps).map .z)
theorem ptO_map (ps : List (Nat × Nat)) : ptO ps = .l (ps.map fun p => .z (tp p.1 p.2)) := by rw [ptO, List.map_map]; rfl
theorem clean_pt (ps : List (Nat × Nat)) : (ptO ps).clean = true := by
  simp only [O.clean]
  rw [O.cleans_all, List.all_eq_true]
  intro o ho
  obtain ⟨d, hd, rfl⟩ := List.mem_map.mp ho
  obtain ⟨p, _, rfl⟩ := List.mem_map.mp hd
  rfl
abbrev enP (n : Nat) (F : Option O) (a b : Option O) : RF.Env := [some (zi n), some (.z (ordD n)), some (mat n fun i j => decide (i < j)), F, a, b]
abbrev cxP : RF.X := .comp (.tup (.cons (.v 4) (.cons (.v 5) .nil))) (.nm 5) (.rng1 (.v 0)) (.some (.ix2 2 (.v 4) (.v 5))) [5]
theorem cxP_eq (m n t : Nat) (F : Option O) (hn : n < 1000) (ht : t < n) : evalE (cc m) cxP (enP n F (some (zi t)) none) = .ok (ptO (((List.range n).filter fun o => decide (t < o)).map fun o => (t, o))) (enP n F (some (zi t)) none) := by
  have q := ev_comp (C := cc m) (elt := .tup (.cons (.v 4) (.cons (.v 5) .nil))) (t := .nm 5) (it := .rng1 (.v 0)) (cd := .some (.ix2 2 (.v 4) (.v 5))) (own := [5]) (env := enP n F (some (zi t)) none) (env1 := enP n F (some (zi t)) none) (List.range n) (fun (j : Nat) => D.int j) (fun o => decide (t < o)) (fun o => .z (tp t o))
    (it_rngN (by omega) (ev_v rfl)) (fun o ho => ⟨enP n F (some (zi t)) (some (zi o)), rfl, by rw [evalCond]; exact ix2_ok (F := fun i j => decide (i < j)) rfl (ev_v rfl) (ev_v rfl) ht (List.mem_range.mp ho), fun _ => tup2_ok (ev_v rfl) (ev_v rfl), rfl⟩)
    (by rw [List.length_range]; omega) rfl (fun _ _ _ => rfl)
  rw [show ptO (((List.range n).filter fun o => decide (t < o)).map fun o => (t, o)) = .l (((List.range n).filter fun o => decide (t < o)).map fun o => .z (tp t o)) from by rw [ptO, List.map_map, List.map_map]; rfl]
  exact q
/-- an owned list grows -/
theorem grow {C : Cfg} {Wx i : Nat} {x : RF.X} {e : RF.Env} {os : List O} {ds fs : List D} {o : O} (hi : getE e i = some (.l os)) (hf : (O.l os).flat = true) (hp : pureX x = true) (ho : O.toDs os = ds) (hx : evalE C x e = .ok o e) (hd : o.toD = .lst fs) (h1 : ds.length < 2 ^ 20) (h2 : fs.length < 2 ^ 20) : evalS C Wx (.set i (.bin .add (.v i) x)) e = .nx (e.set i (some (.l ((ds ++ fs).map .z)))) := by
  refine set_ok ?_
  have v0 : viewE true (.v i) (evalE C (.v i) e) e = .ok (.lst ds) e := by
    simp only [viewE, hi, hf, Bool.and_self, if_true, O.toD, ho]
  rw [evalE, hp, v0]
  simp only [RF.R.bind_ok]
  rw [vw hx]
  simp only [RF.R.bind_ok, hd, binop, lenOk_of h1, lenOk_of h2, Bool.and_self, if_true, ofOpt_some]
abbrev bdP : Ss := .cons (.set 3 (.bin .add (.v 3) cxP)) .nil
theorem bdP_eq (m n t : Nat) (hn : n < 1000) (ht : t < n) : evalSs (cc m) Wf bdP (enP n (some (ptO (pairsN n t))) (some (zi t)) none) = .nx (enP n (some (ptO (pairsN n (t + 1)))) (some (zi t)) none) := by
  have s : evalS (cc m) Wf (.set 3 (.bin .add (.v 3) cxP)) (enP n (some (ptO (pairsN n t))) (some (zi t)) none) = .nx (enP n (some (ptO (pairsN n (t + 1)))) (some (zi t)) none) := by
    have q := grow (C := cc m) (Wx := Wf) (i := 3) (os := (ptD (pairsN n t)).map .z) rfl (flat_lz _) rfl (toDs_z _) (cxP_eq m n t (some (ptO (pairsN n t))) hn ht) (toD_lz _) (by
      rw [List.length_map]
      have := pairsN_len n t
      have : t * n ≤ 1000 * 1000 := Nat.mul_le_mul (by omega) (by omega)
      omega) (by
      rw [List.length_map, List.length_map]
      have := List.length_filter_le (fun o => decide (t < o)) (List.range n)
      rw [List.length_range] at this
      omega)
    rw [← List.map_append] at q
    exact q
  rw [nxt s, nx0]
theorem pairs_eq (k n : Nat) (hn : n < 1000) : g (k + 2) f_all_pairs_of [zi n, .z (ordD n)] = ret (ptO (pairsN n n)) := by
  rw [at_all_pairs_of, run_eq (h := rfl)]
  let e : RF.Env := [some (zi n), some (.z (ordD n)), none, none, none, none]
  let e1 : RF.Env := [some (zi n), some (.z (ordD n)), some (mat n fun i j => decide (i < j)), none, none, none]
  have s1 : evalS (cc (k + 1)) Wf (.set 2 (.call true f_reach_of (.cons (.v 0) (.cons (.v 1) .nil)))) e = .nx e1 := set_ok (rt2 (reach_eq k n hn) (sg_reach_of _) rfl rfl (clean_mat n _))
  have s2 : evalS (cc (k + 1)) Wf (.set 3 (.lst .nil)) e1 = .nx (enP n (some (ptO (pairsN n 0))) none none) := set_ok ev_nil
  obtain ⟨e', h1, x, h2⟩ := ev_for (t := .nm 4) (body := fun e => evalSs (cc (k + 1)) Wf bdP e) (q := fun (j : Nat) => D.int j)
    (fun t e => ∃ x, e = enP n (some (ptO (pairsN n t))) x none) (xs := List.range n) (k := 0) (e := enP n (some (ptO (pairsN n 0))) none none) ⟨none, rfl⟩ (fun j x e hj ⟨a, he⟩ => by
      obtain ⟨h, rfl⟩ := List.getElem?_eq_some_iff.mp hj
      simp only [List.length_range] at h
      simp only [List.getElem_range, Nat.zero_add] at he ⊢
      subst he
      exact ⟨enP n (some (ptO (pairsN n j))) (some (zi j)) none, _, rfl, bdP_eq (k + 1) n j hn h, _, rfl⟩)
  rw [Nat.zero_add, List.length_range] at h2
  subst h2
  show RF.finish [false, false] (evalSs (cc (k + 1)) Wf (.cons _ (.cons _ (.cons (.for (.nm 4) (.rng1 (.v 0)) bdP) (.cons (.ret (.v 3)) .nil)))) e) = _
  rw [nxt s1, nxt s2, nxt (for_ok (it_rngN (by omega) (ev_v rfl)) h1), nxr (retv rfl)]
  rfl
def fallsN (N : List Int) (n : Nat) : List (Nat × Nat) := (pairsN n n).filter fun p => decide (nth N p.2 < nth N p.1)
theorem falls_eq (k : Nat) (N : List Int) (hn : N.length < 1000) : g (k + 3) f_falls_of [.z (li N), .z (ordD N.length)] = ret (ptO (fallsN N N.length)) := by
  rw [at_falls_of, run_eq (h := rfl)]
  let e : RF.Env := [some (.z (li N)), some (.z (ordD N.length)), none]
  have l : evalE (cc (k + 2)) (.blt .len (.cons (.v 0) .nil)) e = .ok (zi N.length) e := See.len (See.z rfl)
  have p : g (k + 2) f_all_pairs_of [zi N.length, .z (ordD N.length)] = ret (ptO (pairsN N.length N.length)) := pairs_eq k N.length hn
  generalize hps : pairsN N.length N.length = ps at p
  have c : evalE (cc (k + 2)) (.call true f_all_pairs_of (.cons (.blt .len (.cons (.v 0) .nil)) (.cons (.v 1) .nil))) e = .ok (ptO ps) e := rtn [.int N.length, ordD N.length] (sg_all_pairs_of _) (arg_c l (arg_c (ev_v rfl) arg_0)) p (clean_pt ps)
  rw [← hps] at c
  have q := ev_comp (C := cc (k + 2)) (elt := .v 2) (t := .nm 2) (it := .seq (.call true f_all_pairs_of (.cons (.blt .len (.cons (.v 0) .nil)) (.cons (.v 1) .nil)))) (cd := .some (.cmp .gt (.ix (.v 0) (.ix (.v 2) (.n 0))) (.ix (.v 0) (.ix (.v 2) (.n 1))))) (own := [2]) (env := e) (env1 := e) (pairsN N.length N.length) (fun p => tp p.1 p.2) (fun p => decide (nth N p.2 < nth N p.1)) (fun p => .z (tp p.1 p.2))
    (it_seq c (toD_lz _)) (fun p hp => ⟨[some (.z (li N)), some (.z (ordD N.length)), some (.z (tp p.1 p.2))], rfl, by
      have hp := pairsN_mem.mp hp
      rw [evalCond]
      exact gt_ok (See.ix (i := 0) (See.z rfl) rfl (ix_tup (j := 0) rfl ev_n rfl) (by omega)) (See.ix (i := 0) (See.z rfl) rfl (ix_tup (j := 1) rfl ev_n rfl) (by omega)), fun _ => ev_v rfl, rfl⟩)
    (by
      have := pairsN_len N.length N.length
      have : N.length * N.length ≤ 1000 * 1000 := Nat.mul_le_mul (by omega) (by omega)
      omega) rfl (fun _ _ _ => rfl)
  show RF.finish [false, false] (evalSs (cc (k + 2)) Wf (.cons (.ret _) .nil) e) = _
  rw [nxr (ret_ok (by intro i z; cases z) q), ptO_map]
  rfl
/-! ### what keeps -/
def keepsB (F : List (Nat × Nat)) (lot : List Nat) : Bool := (F.filter fun p => decide (p.1 ∈ lot) && decide (p.2 ∈ lot)).isEmpty
theorem mem_pl (i : Nat) (lot : List Nat) : cmpop .mem (.int i) (li (pl lot)) = some (decide (i ∈ lot)) := by
  have h2 : (li (pl lot)).ok 60 = true := by
    simp only [D.ok, List.all_eq_true]
    intro d hd
    obtain ⟨a, _, rfl⟩ := List.mem_map.mp hd
    rfl
  have h1 : (D.int i).ok 60 = true := rfl
  simp only [cmpop, h1, h2, Bool.and_self, if_true]
  congr 1
  rw [Bool.eq_iff_iff, List.any_eq_true, decide_eq_true_eq]
  constructor
  · rintro ⟨d, hd, q⟩
    obtain ⟨a, ha, rfl⟩ := List.mem_map.mp hd
    obtain ⟨b, hb, rfl⟩ := List.mem_map.mp ha
    rw [eqv_int] at q
    simp at q
    have q : b = i := by omega
    rw [← q]; exact hb
  · intro h
    exact ⟨.int i, List.mem_map.mpr ⟨i, List.mem_map.mpr ⟨i, h, rfl⟩, rfl⟩, by rw [eqv_int]; simp⟩
theorem keeps_eq (k : Nat) (F : List (Nat × Nat)) (lot : List Nat) (hl : F.length < 2 ^ 20) : g (k + 1) f_keeps [.z (.lst (ptD F)), .z (li (pl lot))] = ret (zb (keepsB F lot)) := by
  rw [at_keeps, run_eq (h := rfl)]
  let e : RF.Env := [some (.z (.lst (ptD F))), some (.z (li (pl lot))), none]
  have q := ev_comp (C := cc k) (elt := .v 2) (t := .nm 2) (it := .seq (.v 0)) (cd := .some (.and (.cons (.cmp .mem (.ix (.v 2) (.n 0)) (.v 1)) (.cons (.cmp .mem (.ix (.v 2) (.n 1)) (.v 1)) .nil)))) (own := [2]) (env := e) (env1 := e) F (fun p => tp p.1 p.2) (fun p => decide (p.1 ∈ lot) && decide (p.2 ∈ lot)) (fun p => .z (tp p.1 p.2))
    (it_seq (ev_v rfl) rfl) (fun p hp => ⟨[some (.z (.lst (ptD F))), some (.z (li (pl lot))), some (.z (tp p.1 p.2))], rfl, by
      rw [evalCond]
      exact and2_ok (cmp_ok (ix_tup (j := 0) rfl ev_n rfl) (ev_v rfl) (mem_pl p.1 lot)) (cmp_ok (ix_tup (j := 1) rfl ev_n rfl) (ev_v rfl) (mem_pl p.2 lot)), fun _ => ev_v rfl, rfl⟩)
    (by omega) rfl (fun _ _ _ => rfl)
  have q2 : evalE (cc k) (.comp (.v 2) (.nm 2) (.seq (.v 0)) (.some (.and (.cons (.cmp .mem (.ix (.v 2) (.n 0)) (.v 1)) (.cons (.cmp .mem (.ix (.v 2) (.n 1)) (.v 1)) .nil)))) [2]) e = .ok (.l ((ptD (F.filter fun p => decide (p.1 ∈ lot) && decide (p.2 ∈ lot))).map .z)) e := by
    rw [List.map_map]; exact q
  have z := eq_nil_ok (by intro i z; cases z) q2 (fun d hd => by
    obtain ⟨p, _, rfl⟩ := List.mem_map.mp hd
    exact ok_tp p.1 p.2 58)
  show RF.finish [false, false] (evalSs (cc k) Wf (.cons (.ret _) .nil) e) = _
  rw [nxr (ret_ok (by intro i z; cases z) z), List.isEmpty_map]
  rfl
theorem pw_mem {R : Nat → Nat → Prop} {P : List Nat} (h : P.Pairwise fun i j => i < j ∧ R i j) {a b : Nat} (ha : a ∈ P) (hb : b ∈ P) (hab : a < b) : R a b := by
  obtain ⟨i, hi, rfl⟩ := List.getElem_of_mem ha
  obtain ⟨j, hj, rfl⟩ := List.getElem_of_mem hb
  have q := List.pairwise_iff_getElem.mp h
  by_cases e : i < j
  · exact (q i j hi hj e).2
  · by_cases e2 : i = j
    · subst e2; omega
    · have := (q j i hj hi (by omega)).1
      omega
theorem keeps_okL {N W : List Int} {n k : Nat} {lot : List Nat} (hl : Lot N W k lot) (hk : k < n) : keepsB (fallsN N n) (lot ++ [k]) = okL N k lot := by
  rw [Bool.eq_iff_iff, okL_all N hl.up]
  unfold keepsB
  rw [List.isEmpty_iff, List.filter_eq_nil_iff]
  constructor
  · intro h i hi
    apply Classical.byContradiction
    intro q
    have := hl.lt i hi
    exact h (i, k) (List.mem_filter.mpr ⟨pairsN_mem.mpr ⟨by simp; omega, by simp; omega, by simp; omega⟩, by simp; omega⟩) (by simp [hi])
  · intro h p hp z
    obtain ⟨h1, h2⟩ := List.mem_filter.mp hp
    have h1 := pairsN_mem.mp h1
    simp only [Bool.and_eq_true, decide_eq_true_eq, List.mem_append, List.mem_singleton] at z h2
    rcases z with ⟨a | a, b | b⟩
    · have := pw_mem hl.up a b h1.2.1
      omega
    · have := h p.1 a
      rw [b] at h2
      omega
    · have := hl.lt p.2 b
      omega
    · omega
end K34
/-! K34y: the heaviest lot, the fewest changed. -/
namespace K34
open RF
theorem set_self {e : RF.Env} {i : Nat} {o : O} (h : getE e i = some o) : e.set i (some o) = e := by
  unfold getE at h
  apply List.ext_getElem?
  intro j
  rw [List.getElem?_set]
  by_cases q : i = j
  · subst q
    rw [if_pos rfl]
    cases z : e[i]? with
    | none => rw [z] at h; cases h
    | some w =>
      rw [z] at h
      have l := (List.getElem?_eq_some_iff.mp z).1
      rw [if_pos l]
      simp at h
      rw [h]
  · rw [if_neg q]
theorem ev_vz {C : Cfg} {e : RF.Env} {i : Nat} {o : O} (h : getE e i = some o) : evalE C (.v i) e = .ok (frz o) (e.set i (some (frz o))) := by
  cases o with
  | z d => rw [ev_v h]; show _ = RF.R.ok (O.z d) (e.set i (some (O.z d))); rw [set_self h]
  | l os => exact ev_vf h rfl
  | t os => exact ev_vf h rfl
/-- an owned list of any kind grows -/
theorem grow2 {C : Cfg} {Wx i : Nat} {x : RF.X} {e : RF.Env} {os : List O} {ds fs : List D} {o : O} (hi : getE e i = some (.l os)) (hp : pureX x = true) (ho : O.toDs os = ds) (hx : ∀ v : O, v.toD = .lst ds → evalE C x (e.set i (some v)) = .ok o (e.set i (some v))) (hd : o.toD = .lst fs) (h1 : ds.length < 2 ^ 20) (h2 : fs.length < 2 ^ 20) : evalS C Wx (.set i (.bin .add (.v i) x)) e = .nx (e.set i (some (.l ((ds ++ fs).map .z)))) := by
  have td : (O.l os).toD = .lst ds := by simp only [O.toD, ho]
  by_cases hf : (O.l os).flat = true
  · have q := hx (.l os) td
    rw [set_self hi] at q
    exact grow hi hf hp ho q hd h1 h2
  · have q := hx (frz (.l os)) td
    have e2 : evalE C (.bin .add (.v i) x) e = .ok (.l ((ds ++ fs).map .z)) (e.set i (some (frz (.l os)))) := by
      have v0 : viewE true (.v i) (evalE C (.v i) e) e = .ok (.lst ds) (e.set i (some (frz (.l os)))) := by
        simp only [viewE, hi, hf, Bool.and_false, Bool.false_eq_true, if_false, ev_vz hi, RF.R.bind_ok]
        show RF.R.ok (frz (.l os)).toD _ = _
        rw [show (frz (.l os)).toD = .lst ds from td]
      rw [evalE, hp, v0]
      simp only [RF.R.bind_ok]
      rw [vw q]
      simp only [RF.R.bind_ok, hd, binop, lenOk_of h1, lenOk_of h2, Bool.and_self, if_true, ofOpt_some]
    rw [set_ok e2, List.set_set]
/-- a call whose arguments change nothing -/
theorem rtv {m f : Nat} {es : Xs} {e : RF.Env} {o : O} (ds : List D) (hs : (cc m).sig f = List.replicate ds.length false) (h : evalArgs (cc m) es (List.replicate ds.length false) e = .ok (ds.map .val) e) (hc : g m f (ds.map .z) = ret o) : evalE (cc m) (.call true f es) e = .ok o e := by
  rw [evalE, hs, h]
  simp only [RF.R.bind_ok]
  rw [do_val ds hs]
  show back0 true e e (g m f (ds.map .z)) = _
  rw [hc]
  simp only [ret, back0]
  split <;> rfl
section
variable {N W : List Int}
theorem weight_eq (k : Nat) (lot : List Nat) (h : ∀ i ∈ lot, i < W.length) (hl : lot.length ≤ 2 ^ 20) : g (k + 1) f_weight_of [.z (li W), .z (li (pl lot))] = ret (zi (sumW W lot)) := by
  rw [at_weight_of, run_eq (h := rfl)]
  let e : RF.Env := [some (.z (li W)), some (.z (li (pl lot))), none]
  have c : evalE (cc k) (.comp (.ix (.v 0) (.v 2)) (.nm 2) (.seq (.v 1)) .none [2]) e = .ok (.l (lot.map fun i => zi (nth W i))) e :=
    ev_compA lot (fun (i : Nat) => D.int i) (fun i => zi (nth W i)) (it_seq (ev_v rfl) (by show D.lst _ = _; rw [pl, List.map_map]; rfl)) (fun i hi => ⟨[some (.z (li W)), some (.z (li (pl lot))), some (zi i)], rfl, See.ix (See.z rfl) rfl (ev_v rfl) (h i hi), rfl⟩) hl rfl (fun _ _ => rfl)
  rw [map_zi] at c
  show RF.finish [false, false] (evalSs (cc k) Wf (.cons (.ret (.blt .sum (.cons _ .nil))) .nil) e) = _
  rw [nxr (ret_ok (by intro i z; cases z) (sum_ok c))]
  rfl
abbrev lotD (N : List Int) (k : Nat) : List D := (lots N k).map fun lot => li (pl lot)
theorem lots_len (N : List Int) (k : Nat) : (lots N k).length ≤ 2 ^ k := by
  induction k with
  | zero => simp [lots]
  | succ k ih =>
    rw [lots, List.length_append, List.length_map, Nat.pow_succ]
    have := List.length_filter_le (okL N k) (lots N k)
    omega
abbrev enH (N W : List Int) (f u a b c : Option O) : RF.Env := [some (.z (li N)), some (.z (li W)), some (.z (ordD N.length)), f, u, a, b, c]
abbrev etH : RF.X := .bin .add (.v 6) (.lst (.cons (.v 5) .nil))
abbrev cxH : RF.X := .comp etH (.nm 6) (.seq (.v 4)) (.some (.call true f_keeps (.cons (.v 3) (.cons etH .nil)))) [6]
theorem pl_app (lot : List Nat) (k : Nat) : pl (lot ++ [k]) = pl lot ++ [(k : Int)] := by rw [pl, List.map_append]; rfl
theorem add_lot {C : Cfg} {e : RF.Env} {i j k : Nat} {lot : List Nat} (hi : getE e i = some (.z (li (pl lot)))) (hj : getE e j = some (zi k)) (hl : lot.length < 1000) : evalE C (.bin .add (.v i) (.lst (.cons (.v j) .nil))) e = .ok (ol (pl (lot ++ [k]))) e := by
  refine bin_ok (ev_v hi) (lst1_ok (ev_v hj)) ?_
  rw [pl_app]
  exact cat_li (pl lot) [(k : Int)] (by rw [pl_len]; omega) (by simp)
theorem lot_len {n : Nat} {lot : List Nat} (h : Lot N W n lot) : lot.length ≤ n := by
  have q := h.up
  have lt := h.lt
  have : ∀ (ls : List Nat) (b : Nat), ls.Pairwise (fun i j => i < j) → (∀ i ∈ ls, i < n) → (∀ i ∈ ls, b ≤ i) → ls.length ≤ n - b := by
    intro ls
    induction ls with
    | nil => intro b _ _ _; simp
    | cons x xs ih =>
      intro b hp hl hb
      rw [List.pairwise_cons] at hp
      have := ih (x + 1) hp.2 (fun i hi => hl i (List.mem_cons_of_mem _ hi)) (fun i hi => hp.1 i hi)
      have := hl x List.mem_cons_self
      have := hb x List.mem_cons_self
      simp only [List.length_cons]
      omega
  have := this lot 0 (q.imp fun z => z.1) lt (fun _ _ => Nat.zero_le _)
  omega
theorem cxH_eq (m k : Nat) (u : O) (c : Option O) (hu : u.toD = .lst (lotD N k)) (hk : k < N.length) (hn : N.length ≤ 12) : evalE (cc (m + 1)) cxH (enH N W (some (ptO (fallsN N N.length))) (some u) (some (zi k)) none c) = .ok (.l (((lots N k).filter (okL N k)).map fun lot => ol (pl (lot ++ [k])))) (enH N W (some (ptO (fallsN N N.length))) (some u) (some (zi k)) none c) := by
  generalize hF : fallsN N N.length = F
  have fl : F.length < 2 ^ 20 := by
    rw [← hF]
    have := List.length_filter_le (fun p => decide (nth N p.2 < nth N p.1)) (pairsN N.length N.length)
    have := pairsN_len N.length N.length
    have : N.length * N.length ≤ 12 * 12 := Nat.mul_le_mul (by omega) (by omega)
    unfold fallsN
    omega
  refine ev_comp (C := cc (m + 1)) (elt := etH) (t := .nm 6) (it := .seq (.v 4)) (cd := .some (.call true f_keeps (.cons (.v 3) (.cons etH .nil)))) (own := [6]) (env := enH N W (some (ptO F)) (some u) (some (zi k)) none c) (env1 := enH N W (some (ptO F)) (some (frz u)) (some (zi k)) none c) (lots N k) (fun lot => li (pl lot)) (okL N k) (fun lot => ol (pl (lot ++ [k])))
    (it_seq (ev_vz rfl) (by show u.toD = _; rw [hu])) (fun lot hlot => ⟨enH N W (some (ptO F)) (some (frz u)) (some (zi k)) (some (.z (li (pl lot)))) c, rfl, ?_, ?_, rfl⟩)
    (by have := lots_len N k; have : 2 ^ k ≤ 2 ^ 12 := Nat.pow_le_pow_right (by decide) (by omega); omega) rfl (fun lot _ _ => clean_ol _)
  · have lk := lots_ok N W k lot hlot
    have ll := lot_len lk
    rw [evalCond]
    have a : evalArgs (cc (m + 1)) (.cons (.v 3) (.cons etH .nil)) [false, false] (enH N W (some (ptO F)) (some (frz u)) (some (zi k)) (some (.z (li (pl lot)))) c) = .ok ([.lst (ptD F), li (pl (lot ++ [k]))].map .val) (enH N W (some (frz (ptO F))) (some (frz u)) (some (zi k)) (some (.z (li (pl lot)))) c) := by
      have v3 : evalE (cc (m + 1)) (.v 3) (enH N W (some (ptO F)) (some (frz u)) (some (zi k)) (some (.z (li (pl lot)))) c) = .ok (frz (ptO F)) (enH N W (some (frz (ptO F))) (some (frz u)) (some (zi k)) (some (.z (li (pl lot)))) c) := ev_vf (o := ptO F) rfl rfl
      have r := arg_c v3 (arg_c (add_lot (i := 6) (j := 5) (lot := lot) rfl rfl (by omega)) arg_0)
      rw [toD_ol] at r
      rw [show (frz (ptO F)).toD = .lst (ptD F) from toD_lz _] at r
      exact r
    have q := keeps_eq m F (lot ++ [k]) fl
    rw [← hF, keeps_okL lk hk, hF] at q
    exact rtn [.lst (ptD F), li (pl (lot ++ [k]))] (sg_keeps _) a q rfl
  · intro _
    have lk := lots_ok N W k lot hlot
    have ll := lot_len lk
    exact add_lot (i := 6) (j := 5) (lot := lot) rfl rfl (by omega)
theorem toDs_lots (xs : List (List Nat)) (f : List Nat → List Nat) : (O.l (xs.map fun lot => ol (pl (f lot)))).toD = .lst (xs.map fun lot => li (pl (f lot))) := by
  simp only [O.toD]
  rw [O.toDs_map, List.map_map]
  congr 1
  apply List.map_congr_left
  intro lot _
  exact toD_ol _
theorem lotD_succ (k : Nat) : lotD N (k + 1) = lotD N k ++ ((lots N k).filter (okL N k)).map fun lot => li (pl (lot ++ [k])) := by
  rw [lotD, lots, List.map_append, List.map_map]; rfl
abbrev bdH : Ss := .cons (.set 4 (.bin .add (.v 4) cxH)) .nil
theorem bdH_eq (m k : Nat) (os : List O) (c : Option O) (hu : O.toDs os = lotD N k) (hk : k < N.length) (hn : N.length ≤ 12) : evalSs (cc (m + 1)) Wf bdH (enH N W (some (ptO (fallsN N N.length))) (some (.l os)) (some (zi k)) none c) = .nx (enH N W (some (ptO (fallsN N N.length))) (some (.l ((lotD N (k + 1)).map .z))) (some (zi k)) none c) := by
  have l1 := lots_len N k
  have l2 : 2 ^ k ≤ 2 ^ 12 := Nat.pow_le_pow_right (by decide) (by omega)
  have l3 := List.length_filter_le (okL N k) (lots N k)
  have s := grow2 (C := cc (m + 1)) (Wx := Wf) (i := 4) (x := cxH) (e := enH N W (some (ptO (fallsN N N.length))) (some (.l os)) (some (zi k)) none c) (os := os) (ds := lotD N k) rfl rfl hu (fun v hv => cxH_eq m k v c hv hk hn) (toDs_lots _ (fun lot => lot ++ [k])) (by rw [List.length_map]; omega) (by rw [List.length_map]; omega)
  rw [← lotD_succ] at s
  rw [nxt s, nx0]
  rfl
theorem heaviest_eq (r : Row N W) (h12 : N.length ≤ 12) (k : Nat) : ∃ lot, lot ∈ lots N N.length ∧ sumW W lot = mx (hts N W N.length) ∧ g (k + 4) f_heaviest_of [.z (li N), .z (li W), .z (ordD N.length)] = ret (.z (li (pl lot))) := by
  have mm := lots_max N W (n := N.length) (by have := r.n1; omega) (fun j hj => r.wpos hj)
  rw [← hts_map] at mm
  have mem := (List.max?_eq_some_iff.mp mm).1
  generalize hM : mx (hts N W N.length) = M at mm mem
  have pl' := List.idxOf_lt_length_of_mem mem
  have hp : ((lots N N.length).map (sumW W))[((lots N N.length).map (sumW W)).idxOf M] = M := List.getElem_idxOf pl'
  generalize hq : ((lots N N.length).map (sumW W)).idxOf M = p at pl' hp
  have pl2 : p < (lots N N.length).length := by simpa using pl'
  rw [List.getElem_map] at hp
  refine ⟨(lots N N.length)[p], List.getElem_mem pl2, hp, ?_⟩
  rw [at_heaviest_of, run_eq (h := rfl)]
  have s1 : evalS (cc (k + 3)) Wf (.set 3 (.call true f_falls_of (.cons (.v 0) (.cons (.v 2) .nil)))) (enH N W none none none none none) = .nx (enH N W (some (ptO (fallsN N N.length))) none none none none) := by
    have f := falls_eq k N (by omega)
    generalize fallsN N N.length = F at f ⊢
    exact set_ok (rtn [li N, ordD N.length] (sg_falls_of _) (args2 rfl rfl) f (clean_pt F))
  have s2 : evalS (cc (k + 3)) Wf (.set 4 (.lst (.cons (.lst .nil) .nil))) (enH N W (some (ptO (fallsN N N.length))) none none none none) = .nx (enH N W (some (ptO (fallsN N N.length))) (some (.l [.l []])) none none none) := set_ok (lst1_ok ev_nil)
  obtain ⟨e', h1, os, x, hos, hos2, h2⟩ := ev_for (t := .nm 5) (body := fun e => evalSs (cc (k + 3)) Wf bdH e) (q := fun (j : Nat) => D.int j)
    (fun t e => ∃ os x, O.toDs os = lotD N t ∧ (0 < t → os = (lotD N t).map .z) ∧ e = enH N W (some (ptO (fallsN N N.length))) (some (.l os)) x none none) (xs := List.range N.length) (k := 0) (e := enH N W (some (ptO (fallsN N N.length))) (some (.l [.l []])) none none none) ⟨[.l []], none, rfl, (fun z => absurd z (Nat.lt_irrefl 0)), rfl⟩ (fun j x e hj ⟨os, a, ho, _, he⟩ => by
      obtain ⟨h, rfl⟩ := List.getElem?_eq_some_iff.mp hj
      simp only [List.length_range] at h
      simp only [List.getElem_range, Nat.zero_add] at he ho ⊢
      subst he
      exact ⟨enH N W (some (ptO (fallsN N N.length))) (some (.l os)) (some (zi j)) none none, _, rfl, bdH_eq (k + 2) j os none ho h h12, _, _, toDs_z _, (fun _ => rfl), rfl⟩)
  rw [Nat.zero_add, List.length_range] at hos hos2
  subst h2
  rw [hos2 (by have := r.n1; omega)] at h1
  generalize hF : fallsN N N.length = F at s1 s2 h1
  have l1 := lots_len N N.length
  have l2 : 2 ^ N.length ≤ 2 ^ 12 := Nat.pow_le_pow_right (by decide) h12
  have c : evalE (cc (k + 3)) (.comp (.call true f_weight_of (.cons (.v 1) (.cons (.v 6) .nil))) (.nm 6) (.seq (.v 4)) .none [6]) (enH N W (some (ptO F)) (some (.l ((lotD N N.length).map .z))) x none none) = .ok (.l ((lots N N.length).map fun lot => zi (sumW W lot))) (enH N W (some (ptO F)) (some (.l ((lotD N N.length).map .z))) x none none) :=
    ev_compA (env1 := enH N W (some (ptO F)) (some (frz (.l ((lotD N N.length).map .z)))) x none none) (lots N N.length) (fun lot => li (pl lot)) (fun lot => zi (sumW W lot)) (it_seq (ev_vz rfl) (toD_lz _)) (fun lot hlot => by
      have lk := lots_ok N W N.length lot hlot
      have ll := lot_len lk
      exact ⟨enH N W (some (ptO F)) (some (frz (.l ((lotD N N.length).map .z)))) x (some (.z (li (pl lot)))) none, rfl, rtn [li W, li (pl lot)] (sg_weight_of _) (args2 rfl rfl) (weight_eq (k + 2) lot (fun i hi => by rw [r.wl]; exact lk.lt i hi) (by omega)) rfl, rfl⟩) (by omega) rfl (fun _ _ => rfl)
  have c' : evalE (cc (k + 3)) (.comp (.call true f_weight_of (.cons (.v 1) (.cons (.v 6) .nil))) (.nm 6) (.seq (.v 4)) .none [6]) (enH N W (some (ptO F)) (some (.l ((lotD N N.length).map .z))) x none none) = .ok (ol ((lots N N.length).map (sumW W))) (enH N W (some (ptO F)) (some (.l ((lotD N N.length).map .z))) x none none) := by
    rw [show ol ((lots N N.length).map (sumW W)) = .l ((lots N N.length).map fun lot => zi (sumW W lot)) from by rw [ol, List.map_map]; rfl]
    exact c
  have s3 : evalS (cc (k + 3)) Wf (.set 7 (.comp (.call true f_weight_of (.cons (.v 1) (.cons (.v 6) .nil))) (.nm 6) (.seq (.v 4)) .none [6])) (enH N W (some (ptO F)) (some (.l ((lotD N N.length).map .z))) x none none) = .nx (enH N W (some (ptO F)) (some (.l ((lotD N N.length).map .z))) x none (some (ol ((lots N N.length).map (sumW W))))) := set_ok c'
  generalize hT : (lots N N.length).map (sumW W) = TT at s3 mm mem hq
  have ei : evalE (cc (k + 3)) (.idx 7 (.blt .max1 (.cons (.v 7) .nil))) (enH N W (some (ptO F)) (some (.l ((lotD N N.length).map .z))) x none (some (ol TT))) = .ok (zi p) (enH N W (some (ptO F)) (some (.l ((lotD N N.length).map .z))) x none (some (ol TT))) := by
    have sn : seen (enH N W (some (ptO F)) (some (.l ((lotD N N.length).map .z))) x none (some (ol TT))) 7 = .ok (li TT) (enH N W (some (ptO F)) (some (.l ((lotD N N.length).map .z))) x none (some (ol TT))) := by
      show (if (ol TT).flat then _ else _) = _
      rw [flat_ol, if_pos rfl, toD_ol]
    rw [evalE, sn]
    simp only [RF.R.bind_ok, See.max (C := cc (k + 3)) (e := enH N W (some (ptO F)) (some (.l ((lotD N N.length).map .z))) x none (some (ol TT))) (i := 7) (See.l rfl) mm]
    rw [idx_li mem, hq]
    rfl
  have s4 : evalE (cc (k + 3)) (.ix (.v 4) (.idx 7 (.blt .max1 (.cons (.v 7) .nil)))) (enH N W (some (ptO F)) (some (.l ((lotD N N.length).map .z))) x none (some (ol TT))) = .ok (.z (li (pl (lots N N.length)[p]))) (enH N W (some (ptO F)) (some (.l ((lotD N N.length).map .z))) x none (some (ol TT))) := by
    have v4 : viewE true (.v 4) (evalE (cc (k + 3)) (.v 4) (enH N W (some (ptO F)) (some (.l ((lotD N N.length).map .z))) x none (some (ol TT)))) (enH N W (some (ptO F)) (some (.l ((lotD N N.length).map .z))) x none (some (ol TT))) = .ok (.lst (lotD N N.length)) (enH N W (some (ptO F)) (some (.l ((lotD N N.length).map .z))) x none (some (ol TT))) := by
      show (if true && (O.l ((lotD N N.length).map .z)).flat then _ else _) = _
      rw [flat_lz, Bool.and_self, if_pos rfl, toD_lz]
    rw [evalE, show pureX (.idx 7 (.blt .max1 (.cons (.v 7) .nil))) = true from rfl, v4]
    simp only [RF.R.bind_ok, ei, atI_nat]
    rw [List.getElem?_map, List.getElem?_eq_getElem pl2]
    rfl
  show RF.finish [false, false, false] (evalSs (cc (k + 3)) Wf (.cons _ (.cons _ (.cons (.for (.nm 5) (.rng1 (.blt .len (.cons (.v 0) .nil))) bdH) (.cons _ (.cons (.ret _) .nil))))) (enH N W none none none none none)) = _
  rw [nxt s1, nxt s2, nxt (for_ok (it_rngN (by omega) (See.len (See.z rfl))) h1), nxt s3, nxr (ret_ok (by intro i z; cases z) s4)]
  rfl
theorem fewest_eq (r : Row N W) (h12 : N.length ≤ 12) (k : Nat) : g (k + 8) f_fewest_changed [.z (li N), .z (li W), .z (ordD N.length)] = ret (zi (W.sum - mx (hts N W N.length))) := by
  obtain ⟨lot, hlot, hs, q⟩ := heaviest_eq r h12 (k + 3)
  have lk := lots_ok N W N.length lot hlot
  have ll := lot_len lk
  have wq := weight_eq (W := W) (k + 6) lot (fun i hi => by rw [r.wl]; exact lk.lt i hi) (by omega)
  rw [hs] at wq
  rw [at_fewest_changed, run_eq (h := rfl)]
  let e : RF.Env := [some (.z (li N)), some (.z (li W)), some (.z (ordD N.length))]
  have a3 : evalArgs (cc (k + 7)) (.cons (.v 0) (.cons (.v 1) (.cons (.v 2) .nil))) [false, false, false] e = .ok ([li N, li W, ordD N.length].map .val) e := arg_c (ev_v rfl) (arg_c (ev_v rfl) (arg_c (ev_v rfl) arg_0))
  have s1 : evalE (cc (k + 7)) (.call true f_check_ordered (.cons (.v 0) (.cons (.v 1) (.cons (.v 2) .nil)))) e = .ok (.z .non) e := rtn [li N, li W, ordD N.length] (sg_check_ordered _) a3 (ordered_eq r h12 k) rfl
  have s2 : evalE (cc (k + 7)) (.call true f_heaviest_of (.cons (.v 0) (.cons (.v 1) (.cons (.v 2) .nil)))) e = .ok (.z (li (pl lot))) e := rtv [li N, li W, ordD N.length] (sg_heaviest_of _) a3 q
  have s3 : evalE (cc (k + 7)) (.call true f_weight_of (.cons (.v 1) (.cons (.call true f_heaviest_of (.cons (.v 0) (.cons (.v 1) (.cons (.v 2) .nil)))) .nil))) e = .ok (zi (mx (hts N W N.length))) e := rtn [li W, li (pl lot)] (sg_weight_of _) (arg_c (ev_v rfl) (arg_c s2 arg_0)) wq rfl
  show RF.finish [false, false, false] (evalSs (cc (k + 7)) Wf (.cons (.expr _) (.cons (.ret (.bin .sub (.blt .sum (.cons (.v 1) .nil)) _)) .nil)) e) = _
  rw [nxt (expr_ok s1), nxr (ret_ok (by intro i z; cases z) (sub_ok (See.sum (See.z rfl)) s3))]
  rfl
end
end K34
/-! K34b: refusals. -/
namespace K34
open RF
theorem expr_ex {C : Cfg} {Wx : Nat} {x : RF.X} {r : Ss} {e : RF.Env} {c : Nat} {us : List D} (h : evalE C x e = .ex c us) : evalSs C Wx (.cons (.expr x) r) e = .ex c us := by
  rw [evalSs, evalS, h]; rfl
theorem rtx {m f : Nat} {es : Xs} {e e1 : RF.Env} {c : Nat} {us : List D} (ds : List D) (hs : (cc m).sig f = List.replicate ds.length false) (h : evalArgs (cc m) es (List.replicate ds.length false) e = .ok (ds.map .val) e1) (hc : g m f (ds.map .z) = .ex c us) : evalE (cc m) (.call true f es) e = .ex c us := call_ex ds hs h hc
/-- the three defs that check both -/
theorem both_ex {k f : Nat} {a b : D} {c : Nat} {us : List D} (hf : f = f_row_heights ∨ f = f_row_kept ∨ f = f_row_changed) (hc : g (k + 5) f_check_weighed [.z a, .z b] = .ex c us) : g (k + 6) f [.z a, .z b] = .ex c us := by
  have q : ∀ e : RF.Env, getE e 0 = some (.z a) → getE e 1 = some (.z b) → evalE (cc (k + 5)) (.call true f_check_weighed (.cons (.v 0) (.cons (.v 1) .nil))) e = .ex c us := fun e h1 h2 => rtx [a, b] (sg_check_weighed _) (args2 h1 h2) hc
  rcases hf with rfl | rfl | rfl
  · rw [at_row_heights, run_eq (h := rfl)]
    show RF.finish [false, false] (evalSs (cc (k + 5)) Wf (.cons (.expr _) _) [some (.z a), some (.z b)]) = _
    rw [expr_ex (q _ rfl rfl)]; rfl
  · rw [at_row_kept, run_eq (h := rfl)]
    show RF.finish [false, false] (evalSs (cc (k + 5)) Wf (.cons (.expr _) _) [some (.z a), some (.z b), none, none, none, none, none, none]) = _
    rw [expr_ex (q _ rfl rfl)]; rfl
  · rw [at_row_changed, run_eq (h := rfl)]
    show RF.finish [false, false] (evalSs (cc (k + 5)) Wf (.cons (.expr _) _) [some (.z a), some (.z b)]) = _
    rw [expr_ex (q _ rfl rfl)]; rfl
theorem count_ex {k n : Nat} {a : D} (h : Gd n a) (hn : n ≤ 50) (ha : areN 60 a = false) : g (k + 5) f_fall_count [.z a] = .ex 0 [a] := by
  have c : g (k + 4) f_check_row [.z a] = .ex 0 [a] := by rw [row_chk k n h hn, ha, if_neg Bool.false_ne_true]
  rw [at_fall_count, run_eq (h := rfl)]
  show RF.finish [false] (evalSs (cc (k + 4)) Wf (.cons (.expr _) _) [some (.z a), none, none, none, none]) = _
  rw [expr_ex (rtx [a] (sg_check_row _) (args1 rfl) c)]; rfl
/-! ### the law's own calls -/
theorem lcall1 {m f : Nat} {a : D} {c : Nat} {us : List D} (hs : sigT T f = [false]) (h : g m f [.z a] = .ex c us) : g (m + 1) f__law_call [.z (.fn f), .z (.lst [a])] = .ex c us := by
  rw [at__law_call, run_eq (h := rfl)]
  let e : RF.Env := [some (.z (.fn f)), some (.z (.lst [a]))]
  have l : evalE (cc m) (.cmp .eq (.blt .len (.cons (.v 1) .nil)) (.n 1)) e = .ok (zb true) e := eq_ok (x := 1) (y := 1) (blv_ok (vs1 (ev_v rfl)) rfl) ev_n
  have i0 : evalE (cc m) (.ix (.v 1) (.n 0)) e = .ok (.z a) e := ix_lst (j := 0) rfl ev_n rfl
  have cl : evalE (cc m) (.callv 0 (.cons (.ix (.v 1) (.n 0)) .nil)) e = .ex c us := by
    rw [evalE]
    show (evalArgs (cc m) _ ((cc m).sig f) e).bind _ = _
    rw [show (cc m).sig f = [false] from hs, arg_c i0 arg_0]
    simp only [RF.R.bind_ok]
    rw [show [Ar.val (O.z a).toD] = [a].map Ar.val from rfl, do_val [a] (show (cc m).sig f = _ from hs)]
    show back0 _ _ _ (g m f [.z a]) = _
    rw [h]; rfl
  show RF.finish [false, false] (evalSs (cc m) Wf (.cons (.ite _ (.cons (.ret (.callv 0 (.cons (.ix (.v 1) (.n 0)) .nil))) .nil) .nil) _) e) = _
  rw [evalSs, st_ite l, if_pos rfl, evalSs, evalS, cl]
  · rfl
  · intro i z; cases z
theorem lcall2 {m f : Nat} {a b : D} {c : Nat} {us : List D} (hs : sigT T f = [false, false]) (h : g m f [.z a, .z b] = .ex c us) : g (m + 1) f__law_call [.z (.fn f), .z (.lst [a, b])] = .ex c us := by
  rw [at__law_call, run_eq (h := rfl)]
  let e : RF.Env := [some (.z (.fn f)), some (.z (.lst [a, b]))]
  have l1 : evalE (cc m) (.cmp .eq (.blt .len (.cons (.v 1) .nil)) (.n 1)) e = .ok (zb false) e := eq_ok (x := 2) (y := 1) (blv_ok (vs1 (ev_v rfl)) rfl) ev_n
  have l2 : evalE (cc m) (.cmp .eq (.blt .len (.cons (.v 1) .nil)) (.n 2)) e = .ok (zb true) e := eq_ok (x := 2) (y := 2) (blv_ok (vs1 (ev_v rfl)) rfl) ev_n
  have i0 : evalE (cc m) (.ix (.v 1) (.n 0)) e = .ok (.z a) e := ix_lst (j := 0) rfl ev_n rfl
  have i1 : evalE (cc m) (.ix (.v 1) (.n 1)) e = .ok (.z b) e := ix_lst (j := 1) rfl ev_n rfl
  have cl : evalE (cc m) (.callv 0 (.cons (.ix (.v 1) (.n 0)) (.cons (.ix (.v 1) (.n 1)) .nil))) e = .ex c us := by
    rw [evalE]
    show (evalArgs (cc m) _ ((cc m).sig f) e).bind _ = _
    rw [show (cc m).sig f = [false, false] from hs, arg_c i0 (arg_c i1 arg_0)]
    simp only [RF.R.bind_ok]
    rw [show [Ar.val (O.z a).toD, Ar.val (O.z b).toD] = [a, b].map Ar.val from rfl, do_val [a, b] (show (cc m).sig f = _ from hs)]
    show back0 _ _ _ (g m f [.z a, .z b]) = _
    rw [h]; rfl
  show RF.finish [false, false] (evalSs (cc m) Wf (.cons (.ite _ _ .nil) (.cons (.ite _ (.cons (.ret (.callv 0 (.cons (.ix (.v 1) (.n 0)) (.cons (.ix (.v 1) (.n 1)) .nil)))) .nil) .nil) _)) e) = _
  rw [nxt (ite_ff l1), evalSs, st_ite l2, if_pos rfl, evalSs, evalS, cl]
  · rfl
  · intro i z; cases z
theorem mark_eq {m f : Nat} {ds : List D} {c : Nat} {d : D} (h : g m f__law_call [.z (.fn f), .z (.lst ds)] = .ex c [d]) : g (m + 1) f__law_mark [.z (.fn f), .z (.lst ds)] = ret (.z (.exc c [d])) := by
  rw [at__law_mark, run_eq (h := rfl)]
  have s1 : evalS (cc m) Wf (.set 2 .non) [some (.z (.fn f)), some (.z (.lst ds)), none, none] = .nx [some (.z (.fn f)), some (.z (.lst ds)), some (.z .non), none] := set_ok ev_non
  have c1 : evalE (cc m) (.call true f__law_call (.cons (.v 0) (.cons (.v 1) .nil))) [some (.z (.fn f)), some (.z (.lst ds)), some (.z .non), none] = .ex c [d] := rtx [.fn f, .lst ds] (sg__law_call _) (args2 rfl rfl) h
  have s2 : evalS (cc m) Wf (.tryE 3 2 (.call true f__law_call (.cons (.v 0) (.cons (.v 1) .nil)))) [some (.z (.fn f)), some (.z (.lst ds)), some (.z .non), none] = .nx [some (.z (.fn f)), some (.z (.lst ds)), some (.z (.exc c [d])), none] := by
    rw [evalS, c1]; rfl
  show RF.finish [false, false] (evalSs (cc m) Wf (.cons _ (.cons _ (.cons (.ret (.v 2)) .nil))) [some (.z (.fn f)), some (.z (.lst ds)), none, none]) = _
  rw [nxt s1, nxt s2, nxr (retv rfl)]
  rfl
abbrev sN : PySem.Str := ⟨#[73, 110, 118, 97, 108, 105, 100, 78, 117, 109, 98, 101, 114, 115]⟩
abbrev sW : PySem.Str := ⟨#[73, 110, 118, 97, 108, 105, 100, 87, 101, 105, 103, 104, 116, 115]⟩
def kindOf (c : Nat) : PySem.Str := if c = 0 then sN else sW
theorem kind_eq (k c : Nat) (d : D) (hc : c = 0 ∨ c = 1) : g (k + 1) f__law_is_kind [.z (.exc c [d]), .z (.str (kindOf c))] = ret (zb true) := by
  have q1 : cmpop .eq (.str sN) (.str sN) = some true := by decide +kernel
  have q2 : cmpop .eq (.str sW) (.str sN) = some false := by decide +kernel
  have q3 : cmpop .eq (.str sW) (.str sW) = some true := by decide +kernel
  rw [at__law_is_kind, run_eq (h := rfl)]
  rcases hc with rfl | rfl
  · let e : RF.Env := [some (.z (.exc 0 [d])), some (.z (.str sN))]
    have t : evalE (cc k) (.cmp .eq (.v 1) (.s sN)) e = .ok (zb true) e := cmp_ok (ev_v rfl) ev_s q1
    have i : evalE (cc k) (.isc 0 0) e = .ok (zb true) e := by rw [evalE]; rfl
    show RF.finish [false, false] (evalSs (cc k) Wf (.cons (.ite _ (.cons (.ret _) .nil) .nil) _) e) = _
    rw [nxr (ite_tr t (by intro i z; cases z) i)]
    rfl
  · let e : RF.Env := [some (.z (.exc 1 [d])), some (.z (.str sW))]
    have t : evalE (cc k) (.cmp .eq (.v 1) (.s sN)) e = .ok (zb false) e := cmp_ok (ev_v rfl) ev_s q2
    have t2 : evalE (cc k) (.cmp .eq (.v 1) (.s sW)) e = .ok (zb true) e := cmp_ok (ev_v rfl) ev_s q3
    have i : evalE (cc k) (.isc 1 0) e = .ok (zb true) e := by rw [evalE]; rfl
    show RF.finish [false, false] (evalSs (cc k) Wf (.cons (.ite _ _ .nil) (.cons (.ite _ (.cons (.ret _) .nil) .nil) _)) e) = _
    rw [nxt (ite_ff t), nxr (ite_tr t2 (by intro i z; cases z) i)]
    rfl
theorem raised_eq {k f n : Nat} {ds : List D} {c : Nat} {d : D} (hc : c = 0 ∨ c = 1) (h : g (k + n + 1) f__law_call [.z (.fn f), .z (.lst ds)] = .ex c [d]) (hg : Gd n d) (hn : n ≤ 50) : g (k + n + 3) f__law_raised [.z (.fn f), .z (.lst ds), .z (.str (kindOf c)), .z d] = ret (zb true) := by
  have mk := mark_eq h
  have sm := same_self n (k + 1) hg hn
  rw [show k + 1 + n + 1 = k + n + 2 by omega] at sm
  rw [at__law_raised, run_eq (h := rfl)]
  let e : RF.Env := [some (.z (.fn f)), some (.z (.lst ds)), some (.z (.str (kindOf c))), some (.z d), some (.z (.exc c [d]))]
  have s1 : evalS (cc (k + n + 2)) Wf (.set 4 (.call true f__law_mark (.cons (.v 0) (.cons (.v 1) .nil)))) [some (.z (.fn f)), some (.z (.lst ds)), some (.z (.str (kindOf c))), some (.z d), none] = .nx e := set_ok (rtv [.fn f, .lst ds] (sg__law_mark _) (args2 rfl rfl) mk)
  have a : evalE (cc (k + n + 2)) (.cmp .isn (.v 4) .non) e = .ok (zb true) e := cmp_ok (ev_v rfl) ev_non rfl
  have b : evalE (cc (k + n + 2)) (.call true f__law_is_kind (.cons (.v 4) (.cons (.v 2) .nil))) e = .ok (zb true) e := rtn [.exc c [d], .str (kindOf c)] (sg__law_is_kind _) (args2 rfl rfl) (kind_eq (k + n + 1) c d hc) rfl
  have at4 : evalE (cc (k + n + 2)) (.attr 4) e = .ok (.z d) e := by rw [evalE]; rfl
  have c3 : evalE (cc (k + n + 2)) (.call true f__law_same (.cons (.attr 4) (.cons (.v 3) .nil))) e = .ok (zb true) e := rtn [d, d] (sg__law_same _) (arg_c at4 (arg_c (ev_v rfl) arg_0)) sm rfl
  show RF.finish [false, false, false, false] (evalSs (cc (k + n + 2)) Wf (.cons _ (.cons (.ret _) .nil)) [some (.z (.fn f)), some (.z (.lst ds)), some (.z (.str (kindOf c))), some (.z d), none]) = _
  rw [nxt s1, nxr (ret_ok (by intro i z; cases z) (and3_ok a b c3))]
  rfl
/-! ### refused -/
theorem cut_take {α : Type} (xs : List α) (j : Nat) (h : j ≤ xs.length) : cutL xs none (some (j : Int)) = xs.take j := by
  unfold cutL
  rw [HT.sIx_nat, HT.sIx_none, List.drop_zero, Nat.min_eq_left h, Nat.sub_zero]
theorem sl_take {C : Cfg} {e : RF.Env} {i j k : Nat} {ds : List D} (hi : getE e i = some (.z (.lst ds))) (hk : getE e k = some (zi j)) (h : j ≤ ds.length) : evalE C (.sl (.v i) .none (.some (.v k))) e = .ok (.l ((ds.take j).map .z)) e := by
  have p : evalPart C (.some (.v k)) e = .ok (some (j : Int)) e := by rw [evalPart, ev_v hk]; rfl
  have q : evalPart C .none e = .ok none e := by rw [evalPart]
  rw [evalE]
  simp only [viewE, hi, RF.R.bind_ok, q, p]
  rw [cut_take ds j h]
theorem sl_drop {C : Cfg} {e : RF.Env} {i j : Nat} {a : RF.X} {ds : List D} (hi : getE e i = some (.z (.lst ds))) (hk : evalE C a e = .ok (zi j) e) : evalE C (.sl (.v i) (.some a) .none) e = .ok (.l ((ds.drop j).map .z)) e := by
  have p : evalPart C (.some a) e = .ok (some (j : Int)) e := by rw [evalPart, hk]; rfl
  have q : evalPart C .none e = .ok none e := by rw [evalPart]
  rw [evalE]
  simp only [viewE, hi, RF.R.bind_ok, q, p]
  rw [cut_drop]
theorem cat_ok {C : Cfg} {a b : RF.X} {e : RF.Env} {x y : O} {xs ys : List D} (ha : evalE C a e = .ok x e) (hb : evalE C b e = .ok y e) (hx : x.toD = .lst xs) (hy : y.toD = .lst ys) (h1 : xs.length < 2 ^ 20) (h2 : ys.length < 2 ^ 20) : evalE C (.bin .add a b) e = .ok (.l ((xs ++ ys).map .z)) e := by
  refine bin_ok ha hb ?_
  rw [hx, hy]
  simp only [binop, lenOk_of h1, lenOk_of h2, Bool.and_self, if_true]
theorem refused_eq {m f j : Nat} {ds : List D} {w : D} {kd : PySem.Str} (hl : ds.length < 1000) (hj : j ≤ ds.length)
    (h1 : g m f__law_raised [.z (.fn f), .z (.lst ((ds.take j ++ [w]) ++ (ds.drop (j + 1)).map fun _ => .non)), .z (.str kd), .z w] = ret (zb true))
    (h2 : g m f__law_raised [.z (.fn f), .z (.lst ((ds.take j ++ [w]) ++ ds.drop (j + 1))), .z (.str kd), .z w] = ret (zb true)) :
    g (m + 1) f__law_refused [.z (.fn f), .z (.lst ds), zi j, .z (.str kd), .z w] = ret (zb true) := by
  rw [at__law_refused, run_eq (h := rfl)]
  let e0 (b t : Option O) : RF.Env := [some (.z (.fn f)), some (.z (.lst ds)), some (zi j), some (.z (.str kd)), some (.z w), b, t]
  have tl : (ds.take j).length < 1000 := by rw [List.length_take]; omega
  have dl : (ds.drop (j + 1)).length < 1000 := by rw [List.length_drop]; omega
  have a1 (b t : Option O) : evalE (cc m) (.bin .add (.sl (.v 1) .none (.some (.v 2))) (.lst (.cons (.v 4) .nil))) (e0 b t) = .ok (.l ((ds.take j ++ [w]).map .z)) (e0 b t) :=
    cat_ok (sl_take rfl rfl hj) (lst1_ok (ev_v rfl)) (toD_lz _) rfl (by omega) (by simp)
  have dr (b t : Option O) : evalE (cc m) (.sl (.v 1) (.some (.bin .add (.v 2) (.n 1))) .none) (e0 b t) = .ok (.l ((ds.drop (j + 1)).map .z)) (e0 b t) := sl_drop rfl (add_ok (x := (j : Int)) (y := 1) (ev_v rfl) ev_n)
  have c : evalE (cc m) (.comp .non (.nm 6) (.seq (.sl (.v 1) (.some (.bin .add (.v 2) (.n 1))) .none)) .none [6]) (e0 none none) = .ok (.l ((ds.drop (j + 1)).map fun _ => .z .non)) (e0 none none) :=
    ev_compA (env1 := e0 none none) (ds.drop (j + 1)) (fun d => d) (fun _ => .z .non) (it_seq (dr none none) (by rw [toD_lz, List.map_id'])) (fun d _ => ⟨e0 none (some (.z d)), rfl, ev_non, rfl⟩) (by omega) rfl (fun _ _ => rfl)
  generalize hB : (ds.take j ++ [w]) ++ (ds.drop (j + 1)).map (fun _ => D.non) = B at h1
  have s1 : evalS (cc m) Wf (.set 5 (.bin .add (.bin .add (.sl (.v 1) .none (.some (.v 2))) (.lst (.cons (.v 4) .nil))) (.comp .non (.nm 6) (.seq (.sl (.v 1) (.some (.bin .add (.v 2) (.n 1))) .none)) .none [6]))) (e0 none none) = .nx (e0 (some (.l (B.map .z))) none) := by
    have q := cat_ok (a1 none none) c (toD_lz _) (ys := (ds.drop (j + 1)).map fun _ => D.non) (by
      rw [← toD_lz, List.map_map]; rfl) (by rw [List.length_append]; simp only [List.length_cons, List.length_nil]; omega) (by rw [List.length_map]; omega)
    rw [hB] at q
    exact set_ok q
  have ar1 : evalArgs (cc m) (.cons (.v 0) (.cons (.v 5) (.cons (.v 3) (.cons (.v 4) .nil)))) [false, false, false, false] (e0 (some (.l (B.map .z))) none) = .ok ([.fn f, .lst B, .str kd, w].map .val) (e0 (some (frz (.l (B.map .z)))) none) := by
    have v5 : evalE (cc m) (.v 5) (e0 (some (.l (B.map .z))) none) = .ok (frz (.l (B.map .z))) (e0 (some (frz (.l (B.map .z)))) none) := ev_vf (o := .l (B.map .z)) rfl rfl
    have r := arg_c (ev_v (C := cc m) (e := e0 (some (.l (B.map .z))) none) (i := 0) (d := .fn f) rfl) (arg_c v5 (arg_c (ev_v (i := 3) (d := .str kd) rfl) (arg_c (ev_v (i := 4) (d := w) rfl) arg_0)))
    rw [show (frz (.l (B.map .z))).toD = .lst B from toD_lz _] at r
    exact r
  have r1 := rtn [.fn f, .lst B, .str kd, w] (sg__law_raised m) ar1 h1 rfl
  have s2 := cat_ok (a1 (some (.l (B.map .z))) none) (dr (some (.l (B.map .z))) none) (toD_lz _) (toD_lz _) (by rw [List.length_append]; simp only [List.length_cons, List.length_nil]; omega) (by omega)
  generalize hF : (ds.take j ++ [w]) ++ ds.drop (j + 1) = FF at h2 s2
  have ar2 : evalArgs (cc m) (.cons (.v 0) (.cons (.bin .add (.bin .add (.sl (.v 1) .none (.some (.v 2))) (.lst (.cons (.v 4) .nil))) (.sl (.v 1) (.some (.bin .add (.v 2) (.n 1))) .none)) (.cons (.v 3) (.cons (.v 4) .nil)))) [false, false, false, false] (e0 (some (.l (B.map .z))) none) = .ok ([.fn f, .lst FF, .str kd, w].map .val) (e0 (some (.l (B.map .z))) none) := by
    have r := arg_c (ev_v (C := cc m) (e := e0 (some (.l (B.map .z))) none) (i := 0) (d := .fn f) rfl) (arg_c s2 (arg_c (ev_v (i := 3) (d := .str kd) rfl) (arg_c (ev_v (i := 4) (d := w) rfl) arg_0)))
    rw [toD_lz] at r
    exact r
  have r2 := rtn [.fn f, .lst FF, .str kd, w] (sg__law_raised m) ar2 h2 rfl
  show RF.finish [false, false, false, false, false] (evalSs (cc m) Wf (.cons (.set 5 _) (.cons (.ite (.not _) _ .nil) (.cons (.ret _) .nil))) (e0 none none)) = _
  rw [nxt s1, nxt (ite_ff (not_ok (b := true) r1)), nxr (ret_ok (by intro i z; cases z) r2)]
  rfl
abbrev deedD (fs : List (Nat × List D)) : D := .lst (fs.map fun p => .tup [.fn p.1, .lst p.2])
theorem all_refused_eq {m j : Nat} {fs : List (Nat × List D)} {ws : List D} {kd : PySem.Str} (hw : ws.length < 1000) (h : ∀ p ∈ fs, ∀ w ∈ ws, g m f__law_refused [.z (.fn p.1), .z (.lst p.2), zi j, .z (.str kd), .z w] = ret (zb true)) :
    g (m + 1) f__law_all_refused [.z (deedD fs), zi j, .z (.str kd), .z (.lst ws)] = ret (zb true) := by
  rw [at__law_all_refused, run_eq (h := rfl)]
  let e (a b c : Option O) : RF.Env := [some (.z (deedD fs)), some (zi j), some (.z (.str kd)), some (.z (.lst ws)), a, b, c]
  let cx : RF.X := .comp (.v 6) (.nm 6) (.seq (.v 3)) (.some (.not (.call true f__law_refused (.cons (.v 4) (.cons (.v 5) (.cons (.v 1) (.cons (.v 2) (.cons (.v 6) .nil)))))))) [6]
  let bd : Ss := .cons (.ite (.cmp .ne cx (.lst .nil)) (.cons (.ret (.tt false)) .nil) .nil) .nil
  have b1 : ∀ p ∈ fs, evalSs (cc m) Wf bd (e (some (.z (.fn p.1))) (some (.z (.lst p.2))) none) = .nx (e (some (.z (.fn p.1))) (some (.z (.lst p.2))) none) := fun p hp => by
    have c : evalE (cc m) cx (e (some (.z (.fn p.1))) (some (.z (.lst p.2))) none) = .ok (.l []) (e (some (.z (.fn p.1))) (some (.z (.lst p.2))) none) :=
      comp_nil ws (fun d => d) (it_seq (ev_v rfl) (by rw [List.map_id']; rfl)) (fun w hw => ⟨e (some (.z (.fn p.1))) (some (.z (.lst p.2))) (some (.z w)), rfl, not_ok (b := true) (rtn [.fn p.1, .lst p.2, .int j, .str kd, w] (sg__law_refused _) (arg_c (ev_v rfl) (arg_c (ev_v rfl) (arg_c (ev_v rfl) (arg_c (ev_v rfl) (arg_c (ev_v rfl) arg_0))))) (h p hp w hw) rfl), rfl⟩) (by omega) rfl
    show evalSs (cc m) Wf (.cons (.ite (.cmp .ne cx (.lst .nil)) _ .nil) .nil) _ = _
    rw [nxt (ite_ff (nen_f c)), nx0]
  obtain ⟨e', h1, x, y, h2⟩ := ev_for (t := .tp [4, 5]) (body := fun e => evalSs (cc m) Wf bd e) (q := fun (p : Nat × List D) => D.tup [.fn p.1, .lst p.2])
    (fun _ e' => ∃ x y, e' = e x y none) (xs := fs) (k := 0) (e := e none none none) ⟨none, none, rfl⟩ (fun i p e1 hj ⟨a, b, he⟩ => by
      subst he
      exact ⟨_, _, rfl, b1 p (List.mem_of_getElem? hj), _, _, rfl⟩)
  subst h2
  show RF.finish [false, false, false, false] (evalSs (cc m) Wf (.cons (.for (.tp [4, 5]) (.seq (.v 0)) bd) (.cons (.ret (.tt true)) .nil)) (e none none none)) = _
  rw [nxt (for_ok (it_seq (ev_v rfl) rfl) h1), nxr (ret_ok (by intro i z; cases z) ev_tt)]
  rfl
end K34
/-! K34c: wrong numbers, wrong weights, all refused. -/
namespace K34
open RF
theorem es_c {C : Cfg} {a : RF.X} {es : Xs} {e : RF.Env} {o : O} {os : List O} (h : evalE C a e = .ok o e) (h2 : evalEs C es e = .ok os e) : evalEs C (.cons a es) e = .ok (o :: os) e := by
  rw [evalEs, h]
  simp only [RF.R.bind_ok, h2]
theorem es_0 {C : Cfg} {e : RF.Env} : evalEs C .nil e = .ok [] e := by rw [evalEs]
theorem lst_ok {C : Cfg} {es : Xs} {e : RF.Env} {os : List O} (h : evalEs C es e = .ok os e) : evalE C (.lst es) e = .ok (.l os) e := by
  rw [evalE, h]; rfl
theorem catv_ok {C : Cfg} {i : Nat} {x : RF.X} {e : RF.Env} {ds fs : List D} {o : O} (hi : getE e i = some (.l (ds.map .z))) (hp : pureX x = true) (hx : evalE C x e = .ok o e) (hd : o.toD = .lst fs) (h1 : ds.length < 2 ^ 20) (h2 : fs.length < 2 ^ 20) : evalE C (.bin .add (.v i) x) e = .ok (.l ((ds ++ fs).map .z)) e := by
  have v0 : viewE true (.v i) (evalE C (.v i) e) e = .ok (.lst ds) e := by
    simp only [viewE, hi, flat_lz, Bool.and_self, if_true, toD_lz]
  rw [evalE, hp, v0]
  simp only [RF.R.bind_ok]
  rw [vw hx]
  simp only [RF.R.bind_ok, hd, binop, lenOk_of h1, lenOk_of h2, Bool.and_self, if_true, ofOpt_some]
theorem fin_nxt {ms : List Bool} {C : Cfg} {Wx : Nat} {s : RF.S} {r : Ss} {e e' : RF.Env} (h : evalS C Wx s e = .nx e') : RF.finish ms (evalSs C Wx (.cons s r) e) = RF.finish ms (evalSs C Wx r e') := by rw [nxt h]
theorem fin_nxr {ms : List Bool} {C : Cfg} {Wx : Nat} {s : RF.S} {r : Ss} {e e' : RF.Env} {o : O} (h : evalS C Wx s e = .rt o e') : RF.finish ms (evalSs C Wx (.cons s r) e) = RF.finish ms (.rt o e') := by rw [nxr h]
theorem pow9 : binop .pow (.int 10) (.int 9) = some (zi 1000000000) := by
  have h : powOk 10 9 = true := by decide +kernel
  have h2 : (10 : Int) ^ (9 : Int).toNat = 1000000000 := by decide +kernel
  simp only [binop, h, if_true, h2]
section
variable {N W : List Int}
abbrev tl (N : List Int) : List D := (N.map D.int).drop 1
abbrev slT : RF.X := .sl (.v 0) (.some (.n 1)) .none
theorem tail_ok {C : Cfg} {x : RF.X} {e : RF.Env} {o : O} (hi : getE e 0 = some (.z (li N))) (hx : evalE C x e = .ok o e) (hl : N.length < 1000) : evalE C (.bin .add (.lst (.cons x .nil)) slT) e = .ok (.l ((o.toD :: tl N).map .z)) e :=
  cat_ok (xs := [o.toD]) (lst1_ok hx) (sl_drop (j := 1) hi ev_n) rfl (toD_lz _) (by simp) (by rw [List.length_drop, List.length_map]; omega)
abbrev s1D : D := .str ⟨#[49]⟩
def wN (N : List Int) : List D := [.non, .int 0, .bl true, .str ⟨#[110, 117, 109, 98, 101, 114, 115]⟩, .lst [], .tup (N.map .int), .lst (.non :: tl N), .lst (.bl true :: tl N), .lst (s1D :: tl N), .lst (.int 1000000001 :: tl N)] ++ [.lst (.int (-1000000001) :: tl N), .lst (.lst [.int 1] :: tl N)] ++ [.lst (List.replicate 61 (.int 0)), .lst (.tup [.int 1, .int 2] :: tl N)]
theorem wrongN_eq (k : Nat) (hl : N.length < 1000) : ∃ os, O.toDs os = wN N ∧ g (k + 1) f__law_wrong_numbers [.z (li N), zi 60] = ret (.l os) := by
  refine ⟨(wN N).map .z, toDs_z _, ?_⟩
  rw [at__law_wrong_numbers, run_eq (h := rfl)]
  let e (u : Option O) : RF.Env := [some (.z (li N)), some (zi 60), u]
  have p9 (u : Option O) : evalE (cc k) (.bin .pow (.n 10) (.n 9)) (e u) = .ok (zi 1000000000) (e u) := bin_ok ev_n ev_n pow9
  have x9 (u : Option O) : evalE (cc k) (.bin .add (.bin .pow (.n 10) (.n 9)) (.n 1)) (e u) = .ok (zi 1000000001) (e u) := add_ok (p9 u) ev_n
  have y9 (u : Option O) : evalE (cc k) (.bin .sub (.bin .sub (.n 0) (.bin .pow (.n 10) (.n 9))) (.n 1)) (e u) = .ok (zi (-1000000001)) (e u) := sub_ok (sub_ok ev_n (p9 u)) ev_n
  have tu (u : Option O) : evalE (cc k) (.blt .tuple (.cons (.v 0) .nil)) (e u) = .ok (.z (.tup (N.map .int))) (e u) := blv_ok (See.vs (See.z rfl)) rfl
  let os1 : List O := [.z .non, zi 0, zb true, .z (.str ⟨#[110, 117, 109, 98, 101, 114, 115]⟩), .l [], .z (.tup (N.map .int)), .l ((D.non :: tl N).map .z), .l ((D.bl true :: tl N).map .z), .l ((s1D :: tl N).map .z), .l ((D.int 1000000001 :: tl N).map .z)]
  let ds1 : List D := [.non, .int 0, .bl true, .str ⟨#[110, 117, 109, 98, 101, 114, 115]⟩, .lst [], .tup (N.map .int), .lst (.non :: tl N), .lst (.bl true :: tl N), .lst (s1D :: tl N), .lst (.int 1000000001 :: tl N)]
  let ds2 : List D := [.lst (.int (-1000000001) :: tl N), .lst (.lst [.int 1] :: tl N)]
  let ds3 : List D := [.lst (List.replicate 61 (.int 0)), .lst (.tup [.int 1, .int 2] :: tl N)]
  have d1 : O.toDs os1 = ds1 := by
    show O.toDs [_, _, _, _, _, _, _, _, _, _] = _
    simp only [O.toDs]
    simp only [toD_lz]
    rfl
  show RF.finish [false, false] (evalSs (cc k) Wf (.cons (.set 2 _) (.cons _ (.cons (.ret _) .nil))) (e none)) = _
  refine (fin_nxt (set_ok (lst_ok (es_c ev_non (es_c ev_n (es_c ev_tt (es_c ev_s (es_c ev_nil (es_c (tu none) (es_c (tail_ok rfl ev_non hl) (es_c (tail_ok rfl ev_tt hl) (es_c (tail_ok rfl ev_s hl) (es_c (tail_ok rfl (x9 none) hl) es_0)))))))))))  )).trans ?_
  show RF.finish [false, false] (evalSs (cc k) Wf (.cons (.set 2 (.bin .add (.v 2) _)) (.cons (.ret _) .nil)) (e (some (.l os1)))) = _
  refine (fin_nxt (grow2 (os := os1) (ds := ds1) (fs := ds2) rfl rfl d1 (fun v _ => lst_ok (es_c (tail_ok (e := e (some v)) rfl (y9 (some v)) hl) (es_c (tail_ok (e := e (some v)) rfl (lst1_ok ev_n) hl) es_0))) ?_ (by simp [ds1]) (by simp [ds2]))).trans ?_
  · show D.lst (O.toDs [_, _]) = _
    simp only [O.toDs]
    simp only [toD_lz]
    rfl
  show RF.finish [false, false] (evalSs (cc k) Wf (.cons (.ret (.bin .add (.v 2) _)) .nil) (e (some (.l ((ds1 ++ ds2).map .z))))) = _
  have ml : evalE (cc k) (.bin .mul (.lst (.cons (.n 0) .nil)) (.bin .add (.v 1) (.n 1))) (e (some (.l ((ds1 ++ ds2).map .z)))) = .ok (.l ((List.replicate 61 (D.int 0)).map .z)) (e (some (.l ((ds1 ++ ds2).map .z)))) := bin_ok (lst1_ok ev_n) (add_ok (x := 60) (ev_v rfl) ev_n) rfl
  refine (fin_nxr (ret_ok (by intro i z; cases z) (catv_ok (ds := ds1 ++ ds2) (fs := ds3) rfl rfl (lst_ok (es_c ml (es_c (tail_ok rfl (tup2_ok ev_n ev_n) hl) es_0))) ?_ (by simp [ds1, ds2]) (by simp [ds3])))).trans ?_
  · show D.lst (O.toDs [_, _]) = _
    simp only [O.toDs]
    simp only [toD_lz]
    rfl
  rfl
theorem tl_gd (hl : N.length < 1000) (x : D) (n : Nat) (h : Gd n x) : Gd (n + 1) (.lst (x :: tl N)) := by
  simp only [Gd]
  refine ⟨by simp only [List.length_cons, List.length_drop, List.length_map]; omega, fun d hd => ?_⟩
  rcases List.mem_cons.mp hd with rfl | hd
  · exact h
  · obtain ⟨i, _, rfl⟩ := List.mem_map.mp (List.mem_of_mem_drop hd)
    simp [Gd]
theorem tl_bad (x : D) (m : Int) (h : isN x = false) : areN m (.lst (x :: tl N)) = false := by
  simp [areN, h]
theorem tl_badW (x : D) (m : Int) (h : isWt x = false) : areW m (.lst (x :: tl N)) = false := by
  simp [areW, h]
theorem wN_bad (hl : N.length < 900) : ∀ w ∈ wN N, Gd 3 w ∧ areN 60 w = false := by
  intro w hw
  have t : Gd 3 (.tup (N.map .int)) := by
    simp only [Gd]
    refine ⟨by rw [List.length_map]; omega, fun d hd => ?_⟩
    obtain ⟨i, _, rfl⟩ := List.mem_map.mp hd
    simp [Gd]
  simp only [wN, List.mem_append, List.mem_cons, List.not_mem_nil, or_false] at hw
  rcases hw with ((rfl | rfl | rfl | rfl | rfl | rfl | rfl | rfl | rfl | rfl) | (rfl | rfl)) | (rfl | rfl)
  · exact ⟨trivial, rfl⟩
  · exact ⟨trivial, rfl⟩
  · exact ⟨trivial, rfl⟩
  · exact ⟨by show PySem.PyData.strOk _ = true; decide +kernel, rfl⟩
  · exact ⟨by simp [Gd], by simp [areN]⟩
  · exact ⟨t, rfl⟩
  · exact ⟨tl_gd (by omega) _ 2 trivial, tl_bad _ _ rfl⟩
  · exact ⟨tl_gd (by omega) _ 2 trivial, tl_bad _ _ rfl⟩
  · exact ⟨tl_gd (by omega) _ 2 (by show PySem.PyData.strOk _ = true; decide +kernel), tl_bad _ _ rfl⟩
  · exact ⟨tl_gd (by omega) _ 2 trivial, tl_bad _ _ (by decide +kernel)⟩
  · exact ⟨tl_gd (by omega) _ 2 trivial, tl_bad _ _ (by decide +kernel)⟩
  · exact ⟨tl_gd (by omega) _ 2 (by simp [Gd]), tl_bad _ _ rfl⟩
  · refine ⟨?_, by simp [areN]⟩
    simp only [Gd]
    refine ⟨by simp, fun d hd => ?_⟩
    rw [(List.mem_replicate.mp hd).2]
    trivial
  · exact ⟨tl_gd (by omega) _ 2 (by simp [Gd]), tl_bad _ _ rfl⟩
/-! ### weights -/
def wW (W : List Int) : List D := [.non, .int 0, .str ⟨#[119, 101, 105, 103, 104, 116, 115]⟩, .lst [], .tup (W.map .int), .lst ((W.map .int).take (W.length - 1)), .lst (W.map .int ++ [.int 1]), .lst (.non :: tl W), .lst (.int 0 :: tl W), .lst (.int 1001 :: tl W), .lst (.bl true :: tl W), .lst (s1D :: tl W)] ++ [.lst (.int (-1) :: tl W)]
theorem wrongW_eq (k : Nat) (hl : W.length < 1000) : ∃ os, O.toDs os = wW W ∧ g (k + 1) f__law_wrong_weights [.z (li W)] = ret (.l os) := by
  rw [at__law_wrong_weights, run_eq (h := rfl)]
  let e (u : Option O) : RF.Env := [some (.z (li W)), u]
  have tu (u : Option O) : evalE (cc k) (.blt .tuple (.cons (.v 0) .nil)) (e u) = .ok (.z (.tup (W.map .int))) (e u) := blv_ok (See.vs (See.z rfl)) rfl
  have cut (u : Option O) : evalE (cc k) (.sl (.v 0) .none (.some (.neg (.n 1)))) (e u) = .ok (.l (((W.map D.int).take (W.length - 1)).map .z)) (e u) := by
    have p : evalPart (cc k) (.some (.neg (.n 1))) (e u) = .ok (some (-1)) (e u) := by rw [evalPart, neg_ok (x := 1) ev_n]; rfl
    have q : evalPart (cc k) .none (e u) = .ok none (e u) := by rw [evalPart]
    rw [evalE]
    simp only [viewE, show getE (e u) 0 = some (.z (li W)) from rfl, RF.R.bind_ok, q, p]
    unfold cutL
    rw [HT.sIx_none, List.drop_zero]
    have hs : HT.sIx (W.map D.int).length (W.map D.int).length (some (-1 : Int)) - 0 = W.length - 1 := by
      simp only [HT.sIx, List.length_map]
      rw [if_pos (by decide)]
      omega
    rw [hs]
  have ap (u : Option O) : evalE (cc k) (.bin .add (.v 0) (.lst (.cons (.n 1) .nil))) (e u) = .ok (.l ((W.map D.int ++ [D.int 1]).map .z)) (e u) := cat_ok (ev_v rfl) (lst1_ok ev_n) rfl rfl (by rw [List.length_map]; omega) (by simp)
  have m1 (u : Option O) : evalE (cc k) (.bin .sub (.n 0) (.n 1)) (e u) = .ok (zi (-1)) (e u) := sub_ok ev_n ev_n
  let os1 : List O := [.z .non, zi 0, .z (.str ⟨#[119, 101, 105, 103, 104, 116, 115]⟩), .l [], .z (.tup (W.map .int)), .l (((W.map D.int).take (W.length - 1)).map .z), .l ((W.map D.int ++ [D.int 1]).map .z), .l ((D.non :: tl W).map .z), .l ((D.int 0 :: tl W).map .z), .l ((D.int 1001 :: tl W).map .z), .l ((D.bl true :: tl W).map .z), .l ((s1D :: tl W).map .z)]
  let ds1 : List D := [.non, .int 0, .str ⟨#[119, 101, 105, 103, 104, 116, 115]⟩, .lst [], .tup (W.map .int), .lst ((W.map .int).take (W.length - 1)), .lst (W.map .int ++ [.int 1]), .lst (.non :: tl W), .lst (.int 0 :: tl W), .lst (.int 1001 :: tl W), .lst (.bl true :: tl W), .lst (s1D :: tl W)]
  have d1 : O.toDs os1 = ds1 := by
    show O.toDs [_, _, _, _, _, _, _, _, _, _, _, _] = _
    simp only [O.toDs]
    simp only [toD_lz]
    rfl
  have fin : ∃ e2, evalE (cc k) (.bin .add (.v 1) (.lst (.cons (.bin .add (.lst (.cons (.bin .sub (.n 0) (.n 1)) .nil)) slT) .nil))) (e (some (.l os1))) = .ok (.l ((wW W).map .z)) e2 := by
    have q := grow2 (C := cc k) (Wx := Wf) (i := 1) (x := .lst (.cons (.bin .add (.lst (.cons (.bin .sub (.n 0) (.n 1)) .nil)) slT) .nil)) (e := e (some (.l os1))) (os := os1) (fs := [.lst (.int (-1) :: tl W)]) rfl rfl d1 (fun v _ => lst_ok (es_c (tail_ok (e := e (some v)) rfl (m1 (some v)) hl) es_0)) (by
      show D.lst (O.toDs [_]) = _
      simp only [O.toDs]
      simp only [toD_lz]
      rfl) (by simp [ds1]) (by simp)
    rw [evalS] at q
    cases z : evalE (cc k) (.bin .add (.v 1) (.lst (.cons (.bin .add (.lst (.cons (.bin .sub (.n 0) (.n 1)) .nil)) slT) .nil))) (e (some (.l os1))) with
    | ok o e1 =>
      rw [z] at q
      simp only [Out.ofR_ok, Out.nx.injEq] at q
      have h1 := congrArg (fun (l : RF.Env) => l[1]?) q
      simp only [List.getElem?_set_self'] at h1
      cases h2 : e1[1]? with
      | none => rw [h2] at h1; simp [e] at h1
      | some w =>
        rw [h2] at h1
        simp [e] at h1
        exact ⟨e1, by rw [h1]; simp [wW, ds1, tl]⟩
    | ex c us => rw [z] at q; cases q
    | no => rw [z] at q; cases q
  obtain ⟨e2, fin⟩ := fin
  refine ⟨(wW W).map .z, toDs_z _, ?_⟩
  show RF.finish [false] (evalSs (cc k) Wf (.cons (.set 1 _) (.cons (.ret _) .nil)) (e none)) = _
  refine (fin_nxt (set_ok (lst_ok (es_c ev_non (es_c ev_n (es_c ev_s (es_c ev_nil (es_c (tu none) (es_c (cut none) (es_c (ap none) (es_c (tail_ok rfl ev_non hl) (es_c (tail_ok rfl ev_n hl) (es_c (tail_ok rfl ev_n hl) (es_c (tail_ok rfl ev_tt hl) (es_c (tail_ok rfl ev_s hl) es_0))))))))))))))).trans ?_
  show RF.finish [false] (evalSs (cc k) Wf (.cons (.ret _) .nil) (e (some (.l os1)))) = _
  refine (fin_nxr (ret_ok (by intro i z; cases z) fin)).trans ?_
  rfl
theorem wW_bad (hl : W.length < 900) (h1 : 1 ≤ W.length) : ∀ w ∈ wW W, Gd 3 w ∧ areW W.length w = false := by
  intro w hw
  have gi : ∀ xs : List D, xs.length < 1000 → (∀ d ∈ xs, ∃ i, d = D.int i) → Gd 3 (.lst xs) := fun xs hx h => by
    simp only [Gd]
    refine ⟨hx, fun d hd => ?_⟩
    obtain ⟨i, rfl⟩ := h d hd
    trivial
  have mi : ∀ d ∈ W.map D.int, ∃ i, d = D.int i := fun d hd => by
    obtain ⟨i, _, rfl⟩ := List.mem_map.mp hd
    exact ⟨i, rfl⟩
  simp only [wW, List.mem_append, List.mem_cons, List.not_mem_nil, or_false] at hw
  rcases hw with (rfl | rfl | rfl | rfl | rfl | rfl | rfl | rfl | rfl | rfl | rfl | rfl) | rfl
  · exact ⟨trivial, rfl⟩
  · exact ⟨trivial, rfl⟩
  · exact ⟨by show PySem.PyData.strOk _ = true; decide +kernel, rfl⟩
  · refine ⟨by simp [Gd], ?_⟩
    simp [areW]; omega
  · refine ⟨?_, rfl⟩
    simp only [Gd]
    refine ⟨by rw [List.length_map]; omega, fun d hd => ?_⟩
    obtain ⟨i, _, rfl⟩ := List.mem_map.mp hd
    trivial
  · refine ⟨gi _ (by rw [List.length_take, List.length_map]; omega) (fun d hd => mi d (List.mem_of_mem_take hd)), ?_⟩
    simp [areW]; omega
  · refine ⟨gi _ (by rw [List.length_append, List.length_map, List.length_singleton]; omega) (fun d hd => ?_), ?_⟩
    · rcases List.mem_append.mp hd with z | z
      · exact mi d z
      · exact ⟨1, List.mem_singleton.mp z⟩
    · simp [areW]
      omega
  · exact ⟨tl_gd (by omega) _ 2 trivial, tl_badW _ _ rfl⟩
  · exact ⟨tl_gd (by omega) _ 2 trivial, tl_badW _ _ (by decide +kernel)⟩
  · exact ⟨tl_gd (by omega) _ 2 trivial, tl_badW _ _ (by decide +kernel)⟩
  · exact ⟨tl_gd (by omega) _ 2 trivial, tl_badW _ _ rfl⟩
  · exact ⟨tl_gd (by omega) _ 2 (by show PySem.PyData.strOk _ = true; decide +kernel), tl_badW _ _ rfl⟩
  · exact ⟨tl_gd (by omega) _ 2 trivial, tl_badW _ _ (by decide +kernel)⟩
/-! ### all refused -/
theorem ref_of {j f n c : Nat} {ds : List D} {w : D} {at0 : Nat} (hc : c = 0 ∨ c = 1) (hl : ds.length < 1000) (hj : at0 ≤ ds.length) (hg : Gd n w) (hn : n ≤ 50)
    (h1 : g (j + n + 1) f__law_call [.z (.fn f), .z (.lst ((ds.take at0 ++ [w]) ++ (ds.drop (at0 + 1)).map fun _ => .non))] = .ex c [w])
    (h2 : g (j + n + 1) f__law_call [.z (.fn f), .z (.lst ((ds.take at0 ++ [w]) ++ ds.drop (at0 + 1)))] = .ex c [w]) :
    g (j + n + 4) f__law_refused [.z (.fn f), .z (.lst ds), zi at0, .z (.str (kindOf c)), .z w] = ret (zb true) :=
  refused_eq hl hj (raised_eq hc h1 hg hn) (raised_eq hc h2 hg hn)
abbrev deeds3 (N W : List Int) : List (Nat × List D) := [(f_row_heights, [li N, li W]), (f_row_kept, [li N, li W]), (f_row_changed, [li N, li W])]
theorem sig3 {f : Nat} (hf : f = f_row_heights ∨ f = f_row_kept ∨ f = f_row_changed) : sigT T f = [false, false] := by
  rcases hf with rfl | rfl | rfl <;> rfl
theorem refN (r : Row N W) : g 19 f__law_all_refused [.z (deedD (deeds3 N W ++ [(f_fall_count, [li N])])), zi 0, .z (.str sN), .z (.lst (wN N))] = ret (zb true) := by
  have n2 := r.n2
  refine all_refused_eq (j := 0) (by simp [wN]) (fun p hp w hw => ?_)
  obtain ⟨g1, g2⟩ := wN_bad (by omega) w hw
  have two : ∀ f, (f = f_row_heights ∨ f = f_row_kept ∨ f = f_row_changed) → g 18 f__law_refused [.z (.fn f), .z (.lst [li N, li W]), zi (0 : Nat), .z (.str sN), .z w] = ret (zb true) := fun f hf => by
    have c : ∀ b, g (11 + 3 + 1) f__law_call [.z (.fn f), .z (.lst [w, b])] = .ex 0 [w] := fun b => lcall2 (sig3 hf) (both_ex (k := 8) hf (weighed_bad 8 3 g1 (by decide) g2))
    exact ref_of (j := 11) (n := 3) (c := 0) (at0 := 0) (ds := [li N, li W]) (.inl rfl) (by simp) (by simp) g1 (by decide) (c _) (c _)
  rcases List.mem_append.mp hp with z | z
  · simp only [List.mem_cons, List.not_mem_nil, or_false] at z
    rcases z with rfl | rfl | rfl
    · exact two _ (.inl rfl)
    · exact two _ (.inr (.inl rfl))
    · exact two _ (.inr (.inr rfl))
  · rw [List.mem_singleton.mp z]
    have c : g (11 + 3 + 1) f__law_call [.z (.fn f_fall_count), .z (.lst [w])] = .ex 0 [w] := lcall1 rfl (count_ex (k := 9) g1 (by decide) g2)
    exact ref_of (j := 11) (n := 3) (c := 0) (at0 := 0) (ds := [li N]) (.inl rfl) (by simp) (by simp) g1 (by decide) c c
theorem refW (r : Row N W) : g 19 f__law_all_refused [.z (deedD (deeds3 N W)), zi 1, .z (.str sW), .z (.lst (wW W))] = ret (zb true) := by
  have n2 := r.n2
  have n1 := r.n1
  have wl := r.wl
  refine all_refused_eq (j := 1) (by simp [wW]) (fun p hp w hw => ?_)
  obtain ⟨g1, g2⟩ := wW_bad (by omega) (by omega) w hw
  have two : ∀ f, (f = f_row_heights ∨ f = f_row_kept ∨ f = f_row_changed) → g 18 f__law_refused [.z (.fn f), .z (.lst [li N, li W]), zi (1 : Nat), .z (.str sW), .z w] = ret (zb true) := fun f hf => by
    have c : g (11 + 3 + 1) f__law_call [.z (.fn f), .z (.lst [li N, w])] = .ex 1 [w] := by
      refine lcall2 (sig3 hf) (both_ex (k := 8) hf ?_)
      have q := weighed_eq 8 3 (r.gN.mono (by decide)) g1 (by decide) r.aN
      rw [List.length_map, ← wl, g2, if_neg Bool.false_ne_true] at q
      exact q
    exact ref_of (j := 11) (n := 3) (c := 1) (at0 := 1) (ds := [li N, li W]) (.inr rfl) (by simp) (by simp) g1 (by decide) c c
  simp only [List.mem_cons, List.not_mem_nil, or_false] at hp
  rcases hp with rfl | rfl | rfl
  · exact two _ (.inl rfl)
  · exact two _ (.inr (.inl rfl))
  · exact two _ (.inr (.inr rfl))
end
end K34
/-! K34d: drawn numbers. -/
namespace K34
open RF
theorem hash_eq (n : Nat) (a m : Int) (h1 : Sm 31 a) (h2 : Sm 40 m) : ∃ h, g (n + 1) f__law_hash [zi a, zi m] = ret (zi h) ∧ 0 ≤ h ∧ h < 2147483647 := by
  have l1 : Sm 21 1140671 := by unfold Sm; decide
  have l2 : Sm 25 27644437 := by unfold Sm; decide
  have l3 : Sm 8 131 := by unfold Sm; decide
  have l4 : Sm 16 62089 := by unfold Sm; decide
  have l5 : Sm 16 48271 := by unfold Sm; decide
  have m1 := mulOk_of h1 l1 (by decide)
  have m2 := mulOk_of l2 h2 (by decide)
  have m3 := mulOk_of (l2.mul h2) h2 (by decide)
  have m4 := mulOk_of l3 h2 (by decide)
  have r1 := fmod_range (a := a * 1140671 + 27644437 * m * m + 131 * m + 19) (b := 2147483629) (by decide)
  generalize ex : (a * 1140671 + 27644437 * m * m + 131 * m + 19).fmod 2147483629 = x at r1
  have sx : Sm 31 x := by unfold Sm; omega
  have m5 := mulOk_of sx sx (by decide)
  have m6 := mulOk_of l4 h2 (by decide)
  have r2 := fmod_range (a := x * x + 62089 * m + 32416187) (b := 2147483587) (by decide)
  generalize ey : (x * x + 62089 * m + 32416187).fmod 2147483587 = y at r2
  have sy : Sm 31 y := by unfold Sm; omega
  have m7 := mulOk_of sy l5 (by decide)
  have r3 := fmod_range (a := y * 48271) (b := 2147483647) (by decide)
  refine ⟨_, ?_, r3⟩
  rw [at__law_hash]
  simp [runF, d__law_hash, evalSs, evalS, evalE, evalVs, Out.ofR, viewE, getE, binop, bltV, RF.R.bind, O.toD, RF.finish, outs?, ofOpt, m1, m2, m3, m4, m5, m6, m7, ex, ey]
/-- a generator -/
structure Gn (k : Nat) (o : O) : Prop where
  ex : ∃ a b c : Int, o = .l [zi a, zi b, zi c] ∧ 0 ≤ b ∧ b < 2147483647 ∧ 0 ≤ c ∧ c ≤ k
def bdR (n : Nat) : RF.Env → Out := fun z => evalSs (cc n) Wf (.cons (.sto 0 (.n 2) (.bin .add (.ix (.v 0) (.n 2)) (.n 1)))
    (.cons (.set 2 (.bin .add (.bin .mul (.v 2) (.n 2147483587)) (.call true f__law_hash (.cons (.ix (.v 0) (.n 1)) (.cons (.ix (.v 0) (.n 2)) .nil))))) .nil)) z
theorem bdR_eq (n e : Nat) (a b c x d : Int) (w : Option O) (h1 : 0 ≤ b) (h2 : b < 2147483647) (h3 : 0 ≤ c) (h4 : c + 1 < 1000000) (h5 : Sm e d) (h6 : 32 ≤ e) (h7 : e < 900) : ∃ d', bdR (n + 1) [some (.l [zi a, zi b, zi c]), some (zi x), some (zi d), w] = .nx [some (.l [zi a, zi b, zi (c + 1)]), some (zi x), some (zi d'), w] ∧ Sm (e + 33) d' := by
  obtain ⟨h, hh, q1, q2⟩ := hash_eq n b (c + 1) (by unfold Sm; omega) (by unfold Sm; omega)
  have l : Sm 32 2147483587 := by unfold Sm; decide
  have m := mulOk_of h5 l (by omega)
  refine ⟨d * 2147483587 + h, ?_, ?_⟩
  · simp [bdR, evalSs, evalS, evalE, RF.evalArgs, viewE, getE, RF.R.bind, O.toD, O.toDs, O.flat, O.isZ, pureX, L2.atI, L2.ixN, ofOpt, binop, Out.ofR, doCall, sg__law_hash, cc_call, hh, Ar.fetch, Ar.slots, Ar.isRef, back0, O.clean, D.lf, m]
  · have : Sm (e + 32) h := (show Sm 32 h by unfold Sm; omega).mono (by omega)
    exact (h5.mul l).add this
theorem forR (n : Nat) (a b x : Int) (h1 : 0 ≤ b) (h2 : b < 2147483647) : ∀ (k e : Nat) (lo c d : Int) (w : Option O), 0 ≤ c → c + k < 1000000 → Sm e d → 32 ≤ e → e + 33 * k < 900 →
    ∃ d' w', evalFor (.nm 3) (bdR (n + 1)) (rangeL lo 1 k) [some (.l [zi a, zi b, zi c]), some (zi x), some (zi d), w] = .nx [some (.l [zi a, zi b, zi (c + k)]), some (zi x), some (zi d'), w']
  | 0, e, lo, c, d, w, _, _, _, _, _ => ⟨d, w, by simp [rangeL, evalFor]⟩
  | k + 1, e, lo, c, d, w, h3, h4, h5, h6, h7 => by
    obtain ⟨d1, e1, s1⟩ := bdR_eq n e a b c x d (some (zi lo)) h1 h2 h3 (by omega) h5 h6 (by omega)
    obtain ⟨d2, w2, e2⟩ := forR n a b x h1 h2 k (e + 33) (lo + 1) (c + 1) d1 (some (zi lo)) (by omega) (by omega) s1 (by omega) (by omega)
    refine ⟨d2, w2, ?_⟩
    rw [rangeL, evalFor]
    show (match bdR (n + 1) [some (.l [zi a, zi b, zi c]), some (zi x), some (zi d), some (zi lo)] with | .nx env2 => evalFor (.nm 3) (bdR (n + 1)) (rangeL (lo + 1) 1 k) env2 | r => r) = _
    rw [e1]
    show evalFor (.nm 3) (bdR (n + 1)) (rangeL (lo + 1) 1 k) [some (.l [zi a, zi b, zi (c + 1)]), some (zi x), some (zi d1), some (zi lo)] = _
    rw [e2, show c + 1 + (k : Int) = c + ((k + 1 : Nat) : Int) by omega]
theorem rnd (n k : Nat) (o : O) (x : Int) (ho : Gn k o) (hk : k < 900000) (h0 : 0 < x) (hx : Sm 200 x) : ∃ r o', g (n + 2) f__law_random [o, zi x] = .rt (zi r) [o'] ∧ 0 ≤ r ∧ r < x ∧ Gn (k + 10) o' := by
  obtain ⟨a, b, c, rfl, h1, h2, h3, h4⟩ := ho.ex
  have hne : x ≠ 0 := by omega
  rw [at__law_random]
  by_cases ha : 0 < a
  · obtain ⟨r1, r2⟩ := fmod_range (a := a) h0
    have d := divOk_of hx (by omega) hne
    refine ⟨a.fmod x, .l [zi (a.fdiv x), zi b, zi c], ?_, r1, r2, ⟨_, _, _, rfl, h1, h2, h3, by omega⟩⟩
    simp [runF, d__law_random, evalSs, evalS, evalE, evalVs, Out.ofR, viewE, getE, binop, cmpop, bltV, RF.R.bind, O.toD, O.toDs, O.flat, O.isZ, pureX, pureXs, L2.atI, L2.ixN, RF.finish, outs?, ofOpt, ha, hne, d]
  · obtain ⟨q1, q2⟩ := bits_le hx
    have fd : ((PySem.Builtin.Int.intBits x : Nat) : Int).fdiv 30 = ((PySem.Builtin.Int.intBits x : Nat) : Int) / 30 := Int.fdiv_eq_ediv_of_nonneg _ (by decide)
    have d30 : divOk 30 = true := by decide +kernel
    obtain ⟨t, ht⟩ : ∃ t : Nat, 1 + ((PySem.Builtin.Int.intBits x : Nat) : Int).fdiv 30 = (t : Int) ∧ t ≤ 8 := ⟨(1 + ((PySem.Builtin.Int.intBits x : Nat) : Int).fdiv 30).toNat, by rw [fd]; omega, by rw [fd]; omega⟩
    have rg : rngOk (t : Int) = true := by unfold rngOk; rw [decide_eq_true (show -(2 ^ 40) < (t : Int) by omega), decide_eq_true (show (t : Int) < 2 ^ 40 by omega)]; rfl
    obtain ⟨d', w', lp⟩ := forR n a b x h1 h2 t 32 0 c 0 none h3 (by omega) (by unfold Sm; decide) (by omega) (by omega)
    have lp : evalFor (.nm 3) (fun e => evalSs (cc (n + 1)) Wf (.cons (.sto 0 (.n 2) (.bin .add (.ix (.v 0) (.n 2)) (.n 1)))
      (.cons (.set 2 (.bin .add (.bin .mul (.v 2) (.n 2147483587)) (.call true f__law_hash (.cons (.ix (.v 0) (.n 1)) (.cons (.ix (.v 0) (.n 2)) .nil))))) .nil)) e) (rangeL 0 1 t) [some (.l [zi a, zi b, zi c]), some (zi x), some (zi 0), none] = .nx [some (.l [zi a, zi b, zi (c + t)]), some (zi x), some (zi d'), w'] := lp
    obtain ⟨r1, r2⟩ := fmod_range (a := d') h0
    refine ⟨d'.fmod x, .l [zi a, zi b, zi (c + t)], ?_, r1, r2, ⟨_, _, _, rfl, h1, h2, by omega, by omega⟩⟩
    have it : evalIt (cc (n + 1)) (.rng1 (.bin .add (.n 1) (.bin .fdiv (.bits (.v 1)) (.n 30)))) [some (.l [zi a, zi b, zi c]), some (zi x), some (zi 0), none] = .ok (rangeL 0 1 t) [some (.l [zi a, zi b, zi c]), some (zi x), some (zi 0), none] := by
      simp [evalIt, evalE, viewE, getE, RF.R.bind, binop, ofOpt, O.toD, d30, ht.1, rg]
    rw [run_eq (h := rfl)]
    have t1 : evalS (cc (n + 1)) Wf (.ite (.cmp .gt (.ix (.v 0) (.n 0)) (.n 0)) (.cons (.set 2 (.bin .mod (.blt .int (.cons (.ix (.v 0) (.n 0)) .nil)) (.v 1))) (.cons (.sto 0 (.n 0) (.bin .fdiv (.ix (.v 0) (.n 0)) (.v 1))) (.cons (.ret (.v 2)) .nil))) .nil) [some (.l [zi a, zi b, zi c]), some (zi x), none, none] = .nx [some (.l [zi a, zi b, zi c]), some (zi x), none, none] := by
      simp [evalS, evalSs, evalE, Out.ofR, viewE, getE, cmpop, RF.R.bind, O.toD, O.toDs, O.flat, O.isZ, pureX, L2.atI, L2.ixN, ofOpt, ha]
    show RF.finish [true, false] (evalSs (cc (n + 1)) Wf (.cons _ (.cons (.set 2 (.n 0)) (.cons (.for (.nm 3) _ _) (.cons (.ret (.bin .mod (.blt .int (.cons (.v 2) .nil)) (.v 1))) .nil)))) [some (.l [zi a, zi b, zi c]), some (zi x), none, none]) = _
    rw [evalSs, t1]
    show RF.finish [true, false] (evalSs (cc (n + 1)) Wf (.cons (.for (.nm 3) _ _) (.cons (.ret (.bin .mod (.blt .int (.cons (.v 2) .nil)) (.v 1))) .nil)) [some (.l [zi a, zi b, zi c]), some (zi x), some (zi 0), none]) = _
    rw [evalSs, evalS, it]
    simp only []
    rw [lp]
    simp [evalSs, evalS, evalE, evalVs, Out.ofR, viewE, getE, binop, bltV, RF.R.bind, O.toD, RF.finish, outs?, ofOpt, hne]
theorem pick (n k : Nat) (o : O) (ds : List D) (ho : Gn k o) (hk : k < 900000) (h0 : 0 < ds.length) (h1 : ds.length < 1000) : ∃ d o', d ∈ ds ∧ (d.lf = true → g (n + 3) f__law_pick [o, .z (.lst ds)] = .rt (.z d) [o']) ∧ Gn (k + 10) o' := by
  obtain ⟨r, o', e, r1, r2, ho'⟩ := rnd n k o ds.length ho hk (by omega) (by unfold Sm; have : (2:Nat)^10 ≤ 2 ^ 200 := Nat.pow_le_pow_right (by decide) (by decide); omega)
  obtain ⟨a, b, c, rfl, _⟩ := ho.ex
  obtain ⟨a', b', c', rfl, _⟩ := ho'.ex
  have hr : r.toNat < ds.length := by omega
  refine ⟨ds[r.toNat], _, List.getElem_mem hr, fun hl => ?_, ho'⟩
  rw [at__law_pick]
  have at_ : L2.atI ds r = some ds[r.toNat] := by
    unfold L2.atI L2.ixN
    rw [if_pos r1, if_pos r2]
    simp [List.getElem?_eq_getElem hr]
  simp [runF, d__law_pick, evalSs, evalS, evalE, RF.evalArgs, evalVs, bltV, Out.ofR, viewE, getE, RF.R.bind, doCall, sg__law_random, cc_call, e, Ar.fetch, Ar.slots, Ar.isRef, back1, O.toD, RF.finish, outs?, ofOpt, O.isZ, pureX, pureXs, at_]
end K34
/-! K34e: a script's generator; drawn rows. -/
namespace K34
open RF
theorem cell_eq (n : Nat) (s : List Int) (i : Nat) : ∃ z, g (n + 1) f__law_cell [.z (.scr s), zi i] = ret (zi z) := by
  rw [at__law_cell]
  by_cases h : i < s.length
  · refine ⟨s[i], ?_⟩
    simp [runF, d__law_cell, RF.finish, evalSs, evalS, evalE, evalEs, frz, RF.evalArgs, evalVs, evalAnd, evalOr, bltV, Out.ofR, Out.ofO, setAll, viewE, getE, RF.R.bind, doCall, cc_call, Ar.fetch, Ar.slots, Ar.isRef, back0, back1, permA, O.toD, O.toDs, outs?, ofOpt, O.isZ, O.flat, O.clean, O.cleans, D.lf, D.lfs, pureX, pureXs, binop, L2.atI, L2.ixN, sg__law_random, sg__law_pick, sg__law_same, cmpop, h, L2.atI, L2.ixN]
  · refine ⟨(cutL s none (some 1)).sum.fmod 1000003, ?_⟩
    have im : ints? (List.map (O.toD ∘ fun n => O.z (D.int n)) (cutL s none (some 1))) = some (cutL s none (some 1)) := ints_map (cutL s none (some 1))
    simp [runF, d__law_cell, RF.finish, evalSs, evalS, evalE, evalEs, frz, RF.evalArgs, evalVs, evalAnd, evalOr, bltV, Out.ofR, Out.ofO, setAll, viewE, getE, RF.R.bind, doCall, cc_call, Ar.fetch, Ar.slots, Ar.isRef, back0, back1, permA, O.toD, O.toDs, outs?, ofOpt, O.isZ, O.flat, O.clean, O.cleans, D.lf, D.lfs, pureX, pureXs, binop, L2.atI, L2.ixN, sg__law_random, sg__law_pick, sg__law_same, cmpop, h, evalPart, O.toDs_map, im]
theorem powC : powOk 10 18 = true ∧ powOk 10 60 = true ∧ powOk (10 ^ (60 : Int).toNat) 10 = true := by decide +kernel
theorem gen_eq (n : Nat) (s : List Int) (i : Nat) (hi : i < 3) : ∃ o, g (n + 2) f__law_generator [.z (.scr s), zi i] = ret o ∧ Gn 2000 o := by
  obtain ⟨z, e⟩ := cell_eq n s i
  obtain ⟨p1, p2, p3⟩ := powC
  obtain ⟨r1, r2⟩ := fmod_range (a := z) (b := 2147483647) (by decide)
  rw [at__law_generator]
  have l : Sm 10 1000 := by unfold Sm; decide
  have m : mulOk 1000 (i : Int) = true := mulOk_of l (show Sm 2 (i : Int) by unfold Sm; omega) (by decide)
  simp only [Int.reduceToNat, Int.reducePow] at p3
  refine ⟨.l [zi ((if (0 : Int) > z - 10 ^ (18 : Int).toNat then 0 else z - 10 ^ (18 : Int).toNat).fmod ((10 ^ (60 : Int).toNat) ^ (10 : Int).toNat)), zi (z.fmod 2147483647), zi (1000 * i)], ?_, ⟨_, _, _, rfl, r1, r2, by omega, (by show 1000 * (i : Int) ≤ ((2000 : Nat) : Int); omega)⟩⟩
  simp [runF, d__law_generator, RF.finish, evalSs, evalS, evalE, evalEs, frz, RF.evalArgs, evalVs, evalAnd, evalOr, bltV, Out.ofR, Out.ofO, setAll, viewE, getE, RF.R.bind, doCall, cc_call, Ar.fetch, Ar.slots, Ar.isRef, back0, back1, permA, O.toD, O.toDs, outs?, ofOpt, O.isZ, O.flat, O.clean, O.cleans, D.lf, D.lfs, pureX, pureXs, binop, L2.atI, L2.ixN, sg__law_random, sg__law_pick, sg__law_same, sg__law_cell, e, p1, p2, p3, m]
/-! ### calls that change a generator -/
theorem call_ref {m f i : Nat} {E : RF.X} {env : RF.Env} {a b c a' b' c' : Int} {u r : O} (hs : (cc m).sig f = [true, false]) (hi : getE env i = some (.l [zi a, zi b, zi c])) (hE : evalE (cc m) E env = .ok u env) (hg : g m f [.l [zi a, zi b, zi c], .z u.toD] = .rt r [.l [zi a', zi b', zi c']]) : evalE (cc m) (.call false f (.cons (.v i) (.cons E .nil))) env = .ok r (env.set i (some (.l [zi a', zi b', zi c']))) := by
  have a1 : evalArgs (cc m) (.cons (.v i) (.cons E .nil)) [true, false] env = .ok [.ref i, .val u.toD] env := by
    rw [evalArgs, hi]
    simp only [arg_c hE arg_0, RF.R.bind_ok]
  rw [evalE, hs, a1]
  simp only [RF.R.bind_ok]
  unfold doCall
  rw [if_pos (by rw [hs]; rfl)]
  have f1 : Ar.fetch env [.ref i, .val u.toD] = some [.l [zi a, zi b, zi c], .z u.toD] := by
    simp [Ar.fetch, hi, O.isZ]
  rw [f1]
  show back1 env i (g m f _) = _
  rw [hg]
  rfl
theorem bin_okl {C : Cfg} {p : Bop} {a b : RF.X} {e e1 : RF.Env} {x y r : O} (hv : ∀ i, a ≠ .v i) (ha : evalE C a e = .ok x e1) (hb : evalE C b e1 = .ok y e1) (h : binop p x.toD y.toD = some r) : evalE C (.bin p a b) e = .ok r e1 := by
  rw [evalE, view_nv hv, ha]
  simp only [RF.R.bind_ok]
  rw [vw hb]
  simp only [RF.R.bind_ok, h, ofOpt_some]
theorem bin_okr {C : Cfg} {p : Bop} {a b : RF.X} {e e1 : RF.Env} {x y r : O} (hv : ∀ i, b ≠ .v i) (ha : evalE C a e = .ok x e) (hb : evalE C b e = .ok y e1) (h : binop p x.toD y.toD = some r) : evalE C (.bin p a b) e = .ok r e1 := by
  rw [evalE, vw ha]
  simp only [RF.R.bind_ok]
  rw [view_nv hv, hb]
  simp only [RF.R.bind_ok, h, ofOpt_some]
theorem rnd_in {n k i : Nat} {E : RF.X} {env : RF.Env} {o : O} {x : Int} (hi : getE env i = some o) (ho : Gn k o) (hk : k < 900000) (h0 : 0 < x) (hx : Sm 200 x) (hE : evalE (cc (n + 2)) E env = .ok (zi x) env) : ∃ r o', evalE (cc (n + 2)) (.call false f__law_random (.cons (.v i) (.cons E .nil))) env = .ok (zi r) (env.set i (some o')) ∧ 0 ≤ r ∧ r < x ∧ Gn (k + 10) o' := by
  obtain ⟨r, o', h1, h2, h3, h4⟩ := rnd n k o x ho hk h0 hx
  obtain ⟨a, b, c, rfl, _⟩ := ho.ex
  obtain ⟨a', b', c', e, q⟩ := h4.ex
  subst e
  exact ⟨r, _, call_ref (sg__law_random _) hi hE h1, h2, h3, ⟨_, _, _, rfl, q⟩⟩
theorem pick_in {n k i : Nat} {E : RF.X} {env : RF.Env} {o u : O} {ds : List D} (hi : getE env i = some o) (ho : Gn k o) (hk : k < 900000) (h0 : 0 < ds.length) (h1 : ds.length < 1000) (hl : ∀ d ∈ ds, d.lf = true) (hE : evalE (cc (n + 3)) E env = .ok u env) (hu : u.toD = .lst ds) : ∃ d o', d ∈ ds ∧ evalE (cc (n + 3)) (.call false f__law_pick (.cons (.v i) (.cons E .nil))) env = .ok (.z d) (env.set i (some o')) ∧ Gn (k + 10) o' := by
  obtain ⟨d, o', hd, h2, h3⟩ := pick n k o ds ho hk h0 h1
  have h2 := h2 (hl d hd)
  obtain ⟨a, b, c, rfl, _⟩ := ho.ex
  obtain ⟨a', b', c', e, q⟩ := h3.ex
  subst e
  rw [← hu] at h2
  exact ⟨d, _, hd, call_ref (sg__law_pick _) hi hE h2, ⟨_, _, _, rfl, q⟩⟩
/-- numbers drawn one behind another -/
theorem compG {elt cond : RF.Env → RF.R O} {a b : Option O} {lo hi : Int} (step : ∀ (k : Nat) (o : O) (d : D), Gn k o → k < 800000 → ∃ r o', elt [some o, a, b, some (.z d)] = .ok (zi r) [some o', a, b, some (.z d)] ∧ lo ≤ r ∧ r ≤ hi ∧ Gn (k + 10) o') (hc : ∀ e, cond e = .ok (zb true) e) :
    ∀ (ds : List D) (acc : List O) (k : Nat) (o : O), Gn k o → k + 10 * ds.length < 800000 → acc.length + ds.length < 2 ^ 20 → ∃ (xs : List Int) (o' : O), evalComp elt (.nm 3) cond [3] ds [some o, a, b, none] acc = .ok (acc ++ xs.map zi) [some o', a, b, none] ∧ xs.length = ds.length ∧ (∀ x ∈ xs, lo ≤ x ∧ x ≤ hi) ∧ Gn (k + 10 * ds.length) o'
  | [], acc, k, o, ho, _, _ => ⟨[], o, by simp [evalComp], rfl, (fun _ z => nomatch z), ho⟩
  | d :: ds, acc, k, o, ho, hk, hl => by
    simp only [List.length_cons] at hk hl
    obtain ⟨r, o1, h1, h2, h3, h4⟩ := step k o d ho (by omega)
    obtain ⟨xs, o2, q1, q2, q3, q4⟩ := compG step hc ds (acc ++ [zi r]) (k + 10) o1 h4 (by omega) (by rw [List.length_append]; simp only [List.length_cons, List.length_nil]; omega)
    refine ⟨r :: xs, o2, ?_, by simp [q2], fun x hx => ?_, by rw [show k + 10 * (d :: ds).length = k + 10 + 10 * ds.length by simp only [List.length_cons]; omega]; exact q4⟩
    · have t : tgE (.nm 3) (.z d) [some o, a, b, none] = some [some o, a, b, some (.z d)] := rfl
      have w : wipeE [some o1, a, b, some (.z d)] [3] = [some o1, a, b, none] := rfl
      rw [evalComp, t]
      simp only [hc, RF.R.nox_ok, RF.R.bind_ok, lenOk_of (show acc.length < 2 ^ 20 by omega), if_true, h1, w]
      rw [q1]
      simp
    · rcases List.mem_cons.mp hx with rfl | hx
      · exact ⟨h2, h3⟩
      · exact q3 x hx
theorem comp_draw {m n k : Nat} {elt : RF.X} {b : Option O} {lo hi : Int} {o : O} (hp : pureX elt = false) (step : ∀ (k : Nat) (o : O) (d : D), Gn k o → k < 800000 → ∃ r o', evalE (cc m) elt [some o, some (zi n), b, some (.z d)] = .ok (zi r) [some o', some (zi n), b, some (.z d)] ∧ lo ≤ r ∧ r ≤ hi ∧ Gn (k + 10) o') (ho : Gn k o) (hn : n < 1000) (hk : k < 700000) :
    ∃ (xs : List Int) (o' : O), evalE (cc m) (.comp elt (.nm 3) (.rng1 (.v 1)) .none [3]) [some o, some (zi n), b, none] = .ok (ol xs) [some o', some (zi n), b, none] ∧ xs.length = n ∧ (∀ x ∈ xs, lo ≤ x ∧ x ≤ hi) ∧ Gn (k + 10 * n) o' := by
  have it : evalIt (cc m) (.rng1 (.v 1)) [some o, some (zi n), b, none] = .ok ((List.range n).map fun (j : Nat) => D.int j) [some o, some (zi n), b, none] := it_rngN (by omega) (ev_v rfl)
  obtain ⟨xs, o', h1, h2, h3, h4⟩ := compG (elt := fun e => evalE (cc m) elt e) (cond := fun e => evalCond (cc m) .none e) step (fun e => by rw [evalCond]) ((List.range n).map fun (j : Nat) => D.int j) [] k o ho (by simp; omega) (by simp; omega)
  simp only [List.length_map, List.length_range, List.nil_append] at h1 h2 h4
  refine ⟨xs, o', ?_, h2, h3, h4⟩
  rw [evalE, it]
  simp only [RF.R.bind_ok]
  show (evalComp (fun e => evalE (cc m) elt e) (.nm 3) (fun e => evalCond (cc m) .none e) [3] _ [some o, some (zi n), b, none] []).bind _ = _
  rw [h1]
  simp only [RF.R.bind_ok, hp, Bool.false_and, Bool.false_eq_true, if_false]
  rfl
theorem numbers_eq (m n k : Nat) (o : O) (ho : Gn k o) (hn : n < 1000) (hk : k < 600000) : ∃ (xs : List Int) (o' : O), g (m + 4) f__law_drawn_numbers [o, zi n] = .rt (ol xs) [o'] ∧ xs.length = n ∧ (∀ x ∈ xs, -1000000000 ≤ x ∧ x ≤ 1000000000) ∧ Gn (k + 10 + 10 * n) o' := by
  rw [at__law_drawn_numbers]
  let e (o : O) (b x : Option O) : RF.Env := [some o, some (zi n), b, x]
  have le : evalE (cc (m + 3)) (.lst (.cons (.n 2) (.cons (.n 5) (.cons (.n 20) (.cons (.n 1000) (.cons (.bin .pow (.n 10) (.n 9)) .nil)))))) (e o none none) = .ok (.l [zi 2, zi 5, zi 20, zi 1000, zi 1000000000]) (e o none none) := lst_ok (es_c ev_n (es_c ev_n (es_c ev_n (es_c ev_n (es_c (bin_ok ev_n ev_n pow9) es_0)))))
  obtain ⟨d, o1, hd, p1, p2⟩ := pick_in (n := m) (i := 0) (env := e o none none) (ds := [.int 2, .int 5, .int 20, .int 1000, .int 1000000000]) rfl ho (by omega) (by simp) (by simp) (fun d hd => by
    simp only [List.mem_cons, List.not_mem_nil, or_false] at hd
    rcases hd with rfl | rfl | rfl | rfl | rfl <;> rfl) le rfl
  obtain ⟨q, rfl, q1, q2⟩ : ∃ q : Int, d = .int q ∧ 1 ≤ q ∧ q ≤ 1000000000 := by
    simp only [List.mem_cons, List.not_mem_nil, or_false] at hd
    rcases hd with rfl | rfl | rfl | rfl | rfl <;> exact ⟨_, rfl, by decide, by decide⟩
  have s1 : evalS (cc (m + 3)) Wf (.set 2 (.call false f__law_pick (.cons (.v 0) (.cons (.lst (.cons (.n 2) (.cons (.n 5) (.cons (.n 20) (.cons (.n 1000) (.cons (.bin .pow (.n 10) (.n 9)) .nil)))))) .nil)))) (e o none none) = .nx (e o1 (some (zi q)) none) := set_ok p1
  obtain ⟨xs, o2, c1, c2, c3, c4⟩ := comp_draw (m := m + 3) (n := n) (k := k + 10) (elt := .bin .sub (.call false f__law_random (.cons (.v 0) (.cons (.bin .add (.bin .mul (.n 2) (.v 2)) (.n 1)) .nil))) (.v 2)) (b := some (zi q)) (lo := -1000000000) (hi := 1000000000) (o := o1) rfl (fun k o d hg hk => by
    have sq : Sm 200 (2 * q + 1) := (show Sm 40 (2 * q + 1) by unfold Sm; omega).mono (by decide)
    have mo : mulOk 2 q = true := mulOk_of (show Sm 2 2 by unfold Sm; decide) (show Sm 40 q by unfold Sm; omega) (by decide)
    have ee : evalE (cc (m + 1 + 2)) (.bin .add (.bin .mul (.n 2) (.v 2)) (.n 1)) [some o, some (zi n), some (zi q), some (.z d)] = .ok (zi (2 * q + 1)) [some o, some (zi n), some (zi q), some (.z d)] := add_ok (bin_ok ev_n (ev_v rfl) (by show (if mulOk 2 q = true then _ else _) = _; rw [if_pos mo])) ev_n
    obtain ⟨r, o', r1, r2, r3, r4⟩ := rnd_in (n := m + 1) (i := 0) (env := [some o, some (zi n), some (zi q), some (.z d)]) rfl hg (by omega) (by omega) sq ee
    exact ⟨r - q, o', bin_okl (by intro i z; cases z) r1 (ev_v rfl) rfl, by omega, by omega, r4⟩) p2 hn (by omega)
  refine ⟨xs, o2, ?_, c2, c3, c4⟩
  obtain ⟨a', b', c', rfl, _⟩ := c4.ex
  rw [run_eq (h := rfl)]
  show RF.finish [true, false] (evalSs (cc (m + 3)) Wf (.cons _ (.cons (.ret _) .nil)) (e o none none)) = _
  rw [nxt s1, nxr (ret_ok (by intro i z; cases z) c1)]
  rfl
theorem weights_eq (m n k : Nat) (o : O) (ho : Gn k o) (hn : n < 1000) (hk : k < 600000) : ∃ (xs : List Int) (o' : O), g (m + 4) f__law_drawn_weights [o, zi n] = .rt (ol xs) [o'] ∧ xs.length = n ∧ (∀ x ∈ xs, 1 ≤ x ∧ x ≤ 1000) ∧ Gn (k + 10 + 10 * n) o' := by
  rw [at__law_drawn_weights]
  let e (o : O) (b x : Option O) : RF.Env := [some o, some (zi n), b, x]
  have le : evalE (cc (m + 3)) (.lst (.cons (.n 1) (.cons (.n 3) (.cons (.n 1000) .nil)))) (e o none none) = .ok (.l [zi 1, zi 3, zi 1000]) (e o none none) := lst_ok (es_c ev_n (es_c ev_n (es_c ev_n es_0)))
  obtain ⟨d, o1, hd, p1, p2⟩ := pick_in (n := m) (i := 0) (env := e o none none) (ds := [.int 1, .int 3, .int 1000]) rfl ho (by omega) (by simp) (by simp) (fun d hd => by
    simp only [List.mem_cons, List.not_mem_nil, or_false] at hd
    rcases hd with rfl | rfl | rfl <;> rfl) le rfl
  obtain ⟨q, rfl, q1, q2⟩ : ∃ q : Int, d = .int q ∧ 1 ≤ q ∧ q ≤ 1000 := by
    simp only [List.mem_cons, List.not_mem_nil, or_false] at hd
    rcases hd with rfl | rfl | rfl <;> exact ⟨_, rfl, by decide, by decide⟩
  have s1 : evalS (cc (m + 3)) Wf (.set 2 (.call false f__law_pick (.cons (.v 0) (.cons (.lst (.cons (.n 1) (.cons (.n 3) (.cons (.n 1000) .nil)))) .nil)))) (e o none none) = .nx (e o1 (some (zi q)) none) := set_ok p1
  obtain ⟨xs, o2, c1, c2, c3, c4⟩ := comp_draw (m := m + 3) (n := n) (k := k + 10) (elt := .bin .add (.n 1) (.call false f__law_random (.cons (.v 0) (.cons (.v 2) .nil)))) (b := some (zi q)) (lo := 1) (hi := 1000) (o := o1) rfl (fun k o d hg hk => by
    have sq : Sm 200 q := (show Sm 40 q by unfold Sm; omega).mono (by decide)
    obtain ⟨r, o', r1, r2, r3, r4⟩ := rnd_in (n := m + 1) (i := 0) (E := .v 2) (x := q) (env := [some o, some (zi n), some (zi q), some (.z d)]) rfl hg (by omega) (by omega) sq (ev_v rfl)
    exact ⟨1 + r, o', bin_okr (by intro i z; cases z) ev_n r1 rfl, by omega, by omega, r4⟩) p2 hn (by omega)
  refine ⟨xs, o2, ?_, c2, c3, c4⟩
  obtain ⟨a', b', c', rfl, _⟩ := c4.ex
  rw [run_eq (h := rfl)]
  show RF.finish [true, false] (evalSs (cc (m + 3)) Wf (.cons _ (.cons (.ret _) .nil)) (e o none none)) = _
  rw [nxt s1, nxr (ret_ok (by intro i z; cases z) c1)]
  rfl
end K34
/-! K34f: the text of a row and its weights. -/
namespace K34
open RF PySem
def ok2 (d : PyData) : Prop := ∀ k, 0x110000 ≤ k → k ∉ d.shown.cps.toList
theorem free_int (i : Int) : ok2 (.int i) := fun k hk => PyProof.Rows.shown_int_free' ⟨by omega, .inr (by omega)⟩ i
theorem free_list {xs : List PyData} (h : ∀ x ∈ xs, ok2 x) : ok2 (.list xs) := fun k hk => by
  rw [PyData.shown_list]
  have q := PyProof.Rows.shownAll_free (k := k) (fun x hx => h x hx k hk)
  rw [PyProof.Rows.mem_cps_append, PyProof.Rows.mem_cps_append, PyProof.Rows.signs_lbrack, PyProof.Rows.signs_rbrack, PyProof.Rows.mem_join, PyProof.Rows.signs_sep]
  rintro ((hm | (⟨t, ht, hc⟩ | ⟨_, hm⟩)) | hm)
  · simp at hm; omega
  · exact q t ht hc
  · simp at hm; omega
  · simp at hm; omega
theorem strOk_of {d : PyData} (h : ok2 d) : PyData.strOk d.shown = true := by
  show d.shown.cps.all (· < 0x110000) = true
  rw [Array.all_eq_true_iff_forall_mem]
  intro c hc
  apply Classical.byContradiction
  intro z
  simp only [decide_eq_true_eq] at z
  exact h c (by omega) (Array.mem_toList_iff.mpr hc)
def small (ns : List Int) : Prop := ∀ n ∈ ns, n.natAbs < 2 ^ 30
theorem small.lg {ns : List Int} (h : small ns) {n : Int} (hn : n ∈ ns) : n.natAbs.log2 ≤ 30 := Sm.log (k := 30) (h n hn)
theorem sh_ints : ∀ {ns : List Int}, small ns → PyData.showableAll (ns.map .int) = true
  | [], _ => by simp [PyData.showableAll]
  | n :: ns, h => by
    have l := h.lg List.mem_cons_self
    have r := sh_ints (ns := ns) fun m hm => h m (List.mem_cons_of_mem _ hm)
    simp only [List.map_cons, PyData.showableAll, PyData.showable, r, Bool.and_true, decide_eq_true_eq]
    omega
theorem hd_ints : ∀ ns : List Int, PyData.hasDictAll (ns.map .int) = false
  | [] => by simp [PyData.hasDictAll]
  | n :: ns => by simp only [List.map_cons, PyData.hasDictAll, PyData.hasDict, hd_ints ns, Bool.or_self]
theorem lv_ints : ∀ {ns : List Int}, small ns → PyData.leavesShortAll 13 (ns.map .int) = true
  | [], _ => by simp [PyData.leavesShortAll]
  | n :: ns, h => by
    have l := PyData.shown_int_le (i := n) (Nat.lt_trans (h n List.mem_cons_self) (by decide))
    have r := lv_ints (ns := ns) fun m hm => h m (List.mem_cons_of_mem _ hm)
    simp only [List.map_cons, PyData.leavesShortAll, PyData.leavesShort, r, Bool.and_true, decide_eq_true_eq]
    exact l
theorem wt_ints : ∀ {ns : List Int}, small ns → PyData.weightAll (ns.map .int) ≤ 40 * ns.length
  | [], _ => by simp [PyData.weightAll]
  | n :: ns, h => by
    have l := h.lg List.mem_cons_self
    have r := wt_ints (ns := ns) fun m hm => h m (List.mem_cons_of_mem _ hm)
    simp only [List.map_cons, PyData.weightAll, PyData.weight, List.length_cons]
    split <;> omega
theorem py_li (ns : List Int) : (li ns).py = .list (ns.map .int) := by
  simp only [D.py]
  rw [D.pys_map, List.map_map]
  congr 1
theorem row_small {N W : List Int} (r : Row N W) : small N ∧ small W := by
  refine ⟨fun n hn => ?_, fun n hn => ?_⟩
  · have := r.nb n hn; omega
  · have := r.wb n hn; omega
theorem repr_ok {N W : List Int} (r : Row N W) : reprOk (.lst [li N, li W]) = true ∧ PyData.strOk (D.lst [li N, li W]).py.shown = true := by
  obtain ⟨sn, sw⟩ := row_small r
  have gd : Gd 2 (.lst [li N, li W]) := by
    simp only [Gd]
    refine ⟨by simp, fun d hd => ?_⟩
    simp only [List.mem_cons, List.not_mem_nil, or_false] at hd
    rcases hd with rfl | rfl
    · exact r.gN
    · exact r.gW
  have ok : (D.lst [li N, li W]).ok 60 = true := ok_mono gd.ok (by decide)
  have py : (D.lst [li N, li W]).py = .list [.list (N.map .int), .list (W.map .int)] := by
    rw [← py_li, ← py_li]; simp [D.py, D.pys]
  have sh : PyData.showable (.list [.list (N.map .int), .list (W.map .int)]) = true := by simp [PyData.showable, PyData.showableAll, sh_ints sn, sh_ints sw]
  have hd : PyData.hasDict (.list [.list (N.map .int), .list (W.map .int)]) = false := by simp [PyData.hasDict, PyData.hasDictAll, hd_ints]
  have lv : PyData.leavesShort 13 (.list [.list (N.map .int), .list (W.map .int)]) = true := by simp [PyData.leavesShort, PyData.leavesShortAll, lv_ints sn, lv_ints sw]
  have ln := PyData.shown_le 13 (by decide) _ lv
  have wt : PyData.weight (.list [.list (N.map .int), .list (W.map .int)]) ≤ 10000 := by
    have := wt_ints sn
    have := wt_ints sw
    have := r.n2
    have := r.wl
    simp only [PyData.weight, PyData.weightAll]
    omega
  have sz : sizeLine = 16777216 := rfl
  constructor
  · unfold reprOk
    rw [ok, py, sh, hd, decide_eq_true (by omega)]
    rfl
  · rw [py]
    refine strOk_of (free_list fun x hx => ?_)
    simp only [List.mem_cons, List.not_mem_nil, or_false] at hx
    rcases hx with rfl | rfl
    · exact free_list fun y hy => by
        obtain ⟨i, _, rfl⟩ := List.mem_map.mp hy
        exact free_int i
    · exact free_list fun y hy => by
        obtain ⟨i, _, rfl⟩ := List.mem_map.mp hy
        exact free_int i
end K34
/-! K34g: the case, statement by statement. -/
namespace K34
open RF
theorem frz_ol (xs : List Int) : frz (ol xs) = .z (li xs) := by unfold frz; rw [toD_ol]
theorem ev_vol {C : Cfg} {e : RF.Env} {i : Nat} {xs : List Int} (h : getE e i = some (ol xs)) : evalE C (.v i) e = .ok (.z (li xs)) (e.set i (some (.z (li xs)))) := by
  rw [ev_vf h rfl, frz_ol]
theorem es_e {C : Cfg} {a : RF.X} {es : Xs} {e e1 e2 : RF.Env} {o : O} {os : List O} (h : evalE C a e = .ok o e1) (h2 : evalEs C es e1 = .ok os e2) : evalEs C (.cons a es) e = .ok (o :: os) e2 := by
  rw [evalEs, h]
  simp only [RF.R.bind_ok, h2]
theorem lst_e {C : Cfg} {es : Xs} {e e1 : RF.Env} {os : List O} (h : evalEs C es e = .ok os e1) : evalE C (.lst es) e = .ok (.l os) e1 := by
  rw [evalE, h]; rfl
theorem tupT {C : Cfg} {a b : RF.X} {e e1 e2 : RF.Env} {x y : O} (h : evalE C a e = .ok x e1) (h2 : evalE C b e1 = .ok y e2) (hz : (x.isZ && y.isZ) = false) : evalE C (.tup (.cons a (.cons b .nil))) e = .ok (.t [x, y]) e2 := by
  rw [evalE, es_e h (es_e h2 es_0)]
  simp only [RF.R.bind_ok, List.all_cons, List.all_nil, Bool.and_true, hz, Bool.false_eq_true, if_false]
theorem asg2 {C : Cfg} {Wx i j : Nat} {x : RF.X} {e e1 : RF.Env} {a b : O} (h : evalE C x e = .ok (.t [a, b]) e1) : evalS C Wx (.asg [i, j] x) e = .nx ((e1.set i (some a)).set j (some b)) := by
  rw [evalS, h]; rfl
theorem callk2 {m f i j : Nat} {a b : D} {o : O} {e : RF.Env} (hc : g m f [.z b, .z a] = ret o) (hs : (cc m).sig f = [false, false]) (hi : getE e i = some (.z a)) (hj : getE e j = some (.z b)) : evalE (cc m) (.callk f .nil (.cons (.v i) (.cons (.v j) .nil)) [1, 0]) e = .ok o e := by
  rw [evalE, es_0]
  simp only [RF.R.bind_ok, es_e (ev_v hi) (es_e (ev_v hj) es_0)]
  show doCall (cc m) true f e e ([b, a].map .val) = _
  rw [do_val [b, a] hs]
  show back0 true e e (g m f [.z b, .z a]) = _
  rw [hc]
  simp only [ret, back0]
  split <;> rfl
theorem callk1 {m f i : Nat} {a : D} {o : O} {e : RF.Env} (hc : g m f [.z a] = ret o) (hs : (cc m).sig f = [false]) (hi : getE e i = some (.z a)) : evalE (cc m) (.callk f .nil (.cons (.v i) .nil) [0]) e = .ok o e := by
  rw [evalE, es_0]
  simp only [RF.R.bind_ok, es_e (ev_v hi) es_0]
  show doCall (cc m) true f e e ([a].map .val) = _
  rw [do_val [a] hs]
  show back0 true e e (g m f [.z a]) = _
  rw [hc]
  simp only [ret, back0]
  split <;> rfl
theorem pw_len {n : Nat} : ∀ (ls : List Nat) (b : Nat), ls.Pairwise (fun i j => i < j) → (∀ i ∈ ls, i < n) → (∀ i ∈ ls, b ≤ i) → ls.length ≤ n - b := by
  intro ls
  induction ls with
  | nil => intro b _ _ _; simp
  | cons x xs ih =>
    intro b hp hl hb
    rw [List.pairwise_cons] at hp
    have := ih (x + 1) hp.2 (fun i hi => hl i (List.mem_cons_of_mem _ hi)) (fun i hi => hp.1 i hi)
    have := hl x List.mem_cons_self
    have := hb x List.mem_cons_self
    simp only [List.length_cons]
    omega
section
variable {N W : List Int}
theorem Kept.len {P : List Nat} (k : Kept N W P) : P.length ≤ N.length := by
  have := pw_len P 0 (k.up.imp fun z => z.1) k.lt (fun _ _ => Nat.zero_le _)
  omega
/-- the case's slots -/
abbrev E (s : List Int) (i : Nat) (o : O) (N W : List Int) (S : PySem.Str) (t8 t9 a10 a11 a12 a13 a14 a15 a16 a17 a18 a19 a20 : Option O) : RF.Env :=
  [some (.z (.scr s)), some (zi i), some o, some (zi N.length), some (.z (li N)), some (.z (li W)), some (.z (.str S)), some (ol (hts N W N.length)), t8, t9, a10, a11, a12, a13, a14, a15, a16, a17, a18, a19, a20]
abbrev H (N W : List Int) : List Int := hts N W N.length
theorem gd2 {xs ys : List Int} (h : xs.length < 1000) (h2 : ys.length < 1000) : Gd 2 (.lst [li xs, li ys]) := by
  simp only [Gd]
  refine ⟨by simp, fun d hd => ?_⟩
  simp only [List.mem_cons, List.not_mem_nil, or_false] at hd
  rcases hd with rfl | rfl
  · exact gd_li h
  · exact gd_li h2
abbrev ff1 : Ss := .cons (.ret (.tt false)) .nil
abbrev S7 : RF.S := .ite (.or (.cons (.not (.call true f__law_same (.cons (.lst (.cons (.v 8) (.cons (.callk f_row_heights .nil (.cons (.v 5) (.cons (.v 4) .nil)) [1, 0]) .nil))) (.cons (.lst (.cons (.v 7) (.cons (.v 7) .nil))) .nil)))) (.cons (.not (.call true f__law_is_lot (.cons (.v 3) (.cons (.v 9) .nil)))) .nil))) ff1 .nil
theorem s7 (r : Row N W) (s : List Int) (i : Nat) (o : O) (S : PySem.Str) {P : List Nat} (k : Kept N W P) : evalS (cc 19) Wf S7 (E s i o N W S (some (ol (H N W))) (some (ol (pl P))) none none none none none none none none none none none) = .nx (E s i o N W S (some (ol (H N W))) (some (ol (pl P))) none none none none none none none none none none none) := by
  have n2 := r.n2
  have hl : (H N W).length = N.length := hts_len N W _
  have c := row_heights_eq r 13
  have e1 : evalEs (cc 19) (.cons (.v 8) (.cons (.callk f_row_heights .nil (.cons (.v 5) (.cons (.v 4) .nil)) [1, 0]) .nil)) (E s i o N W S (some (ol (H N W))) (some (ol (pl P))) none none none none none none none none none none none) = .ok [.z (li (H N W)), ol (H N W)] (E s i o N W S (some (.z (li (H N W)))) (some (ol (pl P))) none none none none none none none none none none none) :=
    es_e (ev_vol (xs := H N W) rfl) (es_e (callk2 c (sg_row_heights _) rfl rfl) es_0)
  have e2 : evalEs (cc 19) (.cons (.v 7) (.cons (.v 7) .nil)) (E s i o N W S (some (.z (li (H N W)))) (some (ol (pl P))) none none none none none none none none none none none) = .ok [.z (li (H N W)), .z (li (H N W))] ((E s i o N W S (some (.z (li (H N W)))) (some (ol (pl P))) none none none none none none none none none none none).set 7 (some (.z (li (H N W))))) :=
    es_e (ev_vol (xs := H N W) rfl) (es_e (ev_v rfl) es_0)
  have sm := same_self 2 16 (gd2 (xs := H N W) (ys := H N W) (by omega) (by omega)) (by decide)
  have a := arg_c (lst_e e1) (arg_c (lst_e e2) arg_0)
  rw [show (O.l [.z (li (H N W)), ol (H N W)]).toD = .lst [li (H N W), li (H N W)] from by simp only [O.toD, O.toDs]; rw [toDs_zi]] at a
  have q1 := rtn [.lst [li (H N W), li (H N W)], .lst [li (H N W), li (H N W)]] (sg__law_same 19) a sm rfl
  have lt := lot_eq 16 N.length (k.up.imp fun z => z.1) k.lt (by have := k.len; omega)
  have a2 : evalArgs (cc 19) (.cons (.v 3) (.cons (.v 9) .nil)) [false, false] (E s i o N W S (some (ol (H N W))) (some (ol (pl P))) none none none none none none none none none none none) = .ok ([.int N.length, li (pl P)].map .val) (E s i o N W S (some (ol (H N W))) (some (.z (li (pl P)))) none none none none none none none none none none none) := arg_c (ev_v rfl) (arg_c (ev_vol (xs := pl P) rfl) arg_0)
  have q2 := rtn [.int N.length, li (pl P)] (sg__law_is_lot 19) a2 lt rfl
  exact ite_ff (or2_ok (x := false) (y := false) (not_ok (b := true) q1) (not_ok (b := true) q2))
abbrev S8 : RF.S := .ite (.or (.cons (.cmp .ne (.comp (.v 10) (.nm 10) (.rng2 (.n 1) (.blt .len (.cons (.v 9) .nil))) (.some (.cmp .lt (.ix (.v 4) (.ix (.v 9) (.v 10))) (.ix (.v 4) (.ix (.v 9) (.bin .sub (.v 10) (.n 1)))))) [10]) (.lst .nil)) (.cons (.cmp .ne (.blt .sum (.cons (.comp (.ix (.v 5) (.v 10)) (.nm 10) (.seq (.v 9)) .none [10]) .nil)) (.blt .max1 (.cons (.v 7) .nil))) .nil))) ff1 .nil
/-- the numbers at two neighbours of a list of places -/
theorem nb_lt {C : Cfg} {e : RF.Env} {P : List Nat} {j c : Nat} (h4 : getE e 4 = some (.z (li N))) (hc : getE e c = some (ol (pl P))) (h10 : getE e 10 = some (zi ((1 + j : Nat) : Int))) (hj : 1 + j < P.length) (hlt : ∀ i ∈ P, i < N.length) :
    evalE C (.ix (.v 4) (.ix (.v c) (.v 10))) e = .ok (zi (nth N (P[1 + j]'hj))) e ∧ evalE C (.ix (.v 4) (.ix (.v c) (.bin .sub (.v 10) (.n 1)))) e = .ok (zi (nth N (P[j]'(by omega)))) e := by
  have a : evalE C (.bin .sub (.v 10) (.n 1)) e = .ok (zi (j : Int)) e := by
    rw [sub_ok (ev_v h10) ev_n]
    congr 3
    omega
  have x1 := See.ix (C := C) (i := c) (xs := pl P) (See.l hc) rfl (ev_v h10) (by rw [pl_len]; exact hj)
  have x2 := See.ix (C := C) (i := c) (xs := pl P) (See.l hc) rfl a (by rw [pl_len]; omega)
  rw [pl_nth hj] at x1
  rw [pl_nth (show j < P.length by omega)] at x2
  exact ⟨See.ix (See.z h4) rfl x1 (hlt _ (List.getElem_mem _)), See.ix (See.z h4) rfl x2 (hlt _ (List.getElem_mem _))⟩
theorem s8 (r : Row N W) (s : List Int) (i : Nat) (o : O) (S : PySem.Str) (t8 : Option O) {P : List Nat} (k : Kept N W P) : evalS (cc 19) Wf S8 (E s i o N W S t8 (some (ol (pl P))) none none none none none none none none none none none) = .nx (E s i o N W S t8 (some (ol (pl P))) none none none none none none none none none none none) := by
  have n2 := r.n2
  have kl := k.len
  let en (x : Option O) : RF.Env := E s i o N W S t8 (some (ol (pl P))) x none none none none none none none none none none
  have l : evalE (cc 19) (.blt .len (.cons (.v 9) .nil)) (en none) = .ok (zi P.length) (en none) := by
    have := See.len (C := cc 19) (e := en none) (i := 9) (xs := pl P) (See.l rfl)
    rw [pl_len] at this
    exact this
  have c1 : evalE (cc 19) (.comp (.v 10) (.nm 10) (.rng2 (.n 1) (.blt .len (.cons (.v 9) .nil))) (.some (.cmp .lt (.ix (.v 4) (.ix (.v 9) (.v 10))) (.ix (.v 4) (.ix (.v 9) (.bin .sub (.v 10) (.n 1)))))) [10]) (en none) = .ok (.l []) (en none) :=
    comp_nil (List.range (P.length - 1)) (fun (j : Nat) => D.int (1 + j : Nat)) (it_rng2 (m := 1) (n := P.length) (by decide) (by omega) ev_n l) (fun j hj => ⟨en (some (zi ((1 + j : Nat) : Int))), rfl, by
      have hj := List.mem_range.mp hj
      obtain ⟨x1, x2⟩ := nb_lt (C := cc 19) (e := en (some (zi ((1 + j : Nat) : Int)))) (P := P) (j := j) (c := 9) rfl rfl rfl (by omega) k.lt
      have q := lt_ok x1 x2
      have := (pair_at k.up (j := j) (by omega)).2
      rw [decide_eq_false (by simp only [Nat.add_comm 1 j]; omega)] at q
      exact q, rfl⟩) (by rw [List.length_range]; omega) rfl
  have c2 : evalE (cc 19) (.comp (.ix (.v 5) (.v 10)) (.nm 10) (.seq (.v 9)) .none [10]) (en none) = .ok (.l (P.map fun j => zi (nth W j))) (en none) :=
    ev_compA (env1 := E s i o N W S t8 (some (.z (li (pl P)))) none none none none none none none none none none none) P (fun (j : Nat) => D.int j) (fun j => zi (nth W j)) (it_seq (ev_vol (xs := pl P) rfl) (by show D.lst _ = _; rw [pl, List.map_map]; rfl)) (fun j hj => ⟨E s i o N W S t8 (some (.z (li (pl P)))) (some (zi j)) none none none none none none none none none none, rfl, See.ix (See.z rfl) rfl (ev_v rfl) (by rw [r.wl]; exact k.lt j hj), rfl⟩) (by omega) rfl (fun _ _ => rfl)
  rw [map_zi] at c2
  have m := See.max (C := cc 19) (e := en none) (i := 7) (xs := H N W) (See.l rfl) r.hmax
  have q2 := ne_ok (sum_ok c2) m
  rw [show (P.map (nth W)).sum = mx (H N W) from k.sum, decide_eq_true rfl] at q2
  exact ite_ff (or2_ok (x := false) (y := false) (nen_f c1) q2)
end
end K34
/-! K34i: the case: all lots of few numbers. -/
namespace K34
open RF
section
variable {N W : List Int}
/-- the last of a list of places -/
theorem ix_last {C : Cfg} {e : RF.Env} {i : Nat} {lot : List Nat} {l : Nat} (h : getE e i = some (.z (li (pl lot)))) (hl : lot.getLast? = some l) : evalE C (.ix (.v i) (.neg (.n 1))) e = .ok (zi l) e := by
  obtain ⟨ys, rfl⟩ := List.getLast?_eq_some_iff.mp hl
  have a : L2.atI ((pl (ys ++ [l])).map D.int) (-1) = some (.int l) := by
    unfold L2.atI L2.ixN
    rw [if_neg (by decide), if_pos (by simp [pl]; omega)]
    have e1 : (((-1 : Int) + (((pl (ys ++ [l])).map D.int).length : Int)).toNat) = ys.length := by
      simp only [pl, List.length_map, List.length_append, List.length_singleton]; omega
    rw [e1]
    simp [pl]
  have v := See.view (xs := pl (ys ++ [l])) (i := i) (e := e) (r := evalE C (.v i) e) (See.z h)
  rw [evalE, show pureX (.neg (.n 1)) = true from rfl, v]
  simp only [RF.R.bind_ok]
  rw [neg_ok (x := 1) ev_n]
  simp only [RF.R.bind_ok, a]
  rfl
abbrev etL : RF.X := .bin .add (.v 12) (.lst (.cons (.v 10) .nil))
abbrev cdL : RF.X := .or (.cons (.cmp .eq (.v 12) (.lst .nil)) (.cons (.cmp .le (.ix (.v 4) (.ix (.v 12) (.neg (.n 1)))) (.ix (.v 4) (.v 10))) .nil))
abbrev cxL : RF.X := .comp etL (.nm 12) (.seq (.v 11)) (.some cdL) [12]
/-- the slots of the loop -/
abbrev EL (s : List Int) (i : Nat) (o : O) (N W : List Int) (S : PySem.Str) (t8 t9 a10 a11 a12 : Option O) : RF.Env := E s i o N W S t8 t9 a10 a11 a12 none none none none none none none none
theorem cdL_eq (m k : Nat) (s : List Int) (i : Nat) (o : O) (S : PySem.Str) (t8 t9 u : Option O) (lot : List Nat) (hk : k < N.length) (lt : ∀ i ∈ lot, i < k) : evalE (cc m) cdL (EL s i o N W S t8 t9 (some (zi k)) u (some (.z (li (pl lot))))) = .ok (zb (okL N k lot)) (EL s i o N W S t8 t9 (some (zi k)) u (some (.z (li (pl lot))))) := by
  have ok : ∀ d ∈ (pl lot).map D.int, d.ok 59 = true := fun d hd => by
    obtain ⟨j, _, rfl⟩ := List.mem_map.mp hd
    rfl
  have c1 : evalE (cc m) (.cmp .eq (.v 12) (.lst .nil)) (EL s i o N W S t8 t9 (some (zi k)) u (some (.z (li (pl lot))))) = .ok (zb ((pl lot).map D.int).isEmpty) (EL s i o N W S t8 t9 (some (zi k)) u (some (.z (li (pl lot))))) := cmp_ok (ev_v rfl) ev_nil (eq_nil ok)
  rw [evalE]
  cases e : lot.getLast? with
  | none =>
    obtain rfl := List.getLast?_eq_none_iff.mp e
    rw [or_t c1]
    rfl
  | some l =>
    have ne : ((pl lot).map D.int).isEmpty = false := by
      cases lot with
      | nil => simp at e
      | cons a b => rfl
    rw [ne] at c1
    have c2 := le_ok (C := cc m) (See.ix (i := 4) (xs := N) (e := EL s i o N W S t8 t9 (some (zi k)) u (some (.z (li (pl lot))))) (See.z rfl) rfl (ix_last (i := 12) rfl e) (by have := lt l (List.mem_of_getLast? e); omega)) (See.ix (i := 4) (xs := N) (See.z rfl) rfl (ev_v (i := 10) (d := .int k) rfl) hk)
    rw [or_f c1, or_1, c2]
    simp only [okL, e]
theorem cxL_eq (m k : Nat) (s : List Int) (i : Nat) (o : O) (S : PySem.Str) (t8 t9 : Option O) (u : O) (hu : u.toD = .lst (lotD N k)) (hk : k < N.length) (hn : N.length ≤ 12) : evalE (cc m) cxL (EL s i o N W S t8 t9 (some (zi k)) (some u) none) = .ok (.l (((lots N k).filter (okL N k)).map fun lot => ol (pl (lot ++ [k])))) (EL s i o N W S t8 t9 (some (zi k)) (some u) none) := by
  refine ev_comp (C := cc m) (elt := etL) (t := .nm 12) (it := .seq (.v 11)) (cd := .some cdL) (own := [12]) (env := EL s i o N W S t8 t9 (some (zi k)) (some u) none) (env1 := EL s i o N W S t8 t9 (some (zi k)) (some (frz u)) none) (lots N k) (fun lot => li (pl lot)) (okL N k) (fun lot => ol (pl (lot ++ [k])))
    (it_seq (ev_vz rfl) (by show u.toD = _; rw [hu])) (fun lot hlot => ⟨EL s i o N W S t8 t9 (some (zi k)) (some (frz u)) (some (.z (li (pl lot)))), rfl, ?_, ?_, rfl⟩)
    (by have := lots_len N k; have : 2 ^ k ≤ 2 ^ 12 := Nat.pow_le_pow_right (by decide) (by omega); omega) rfl (fun lot _ _ => clean_ol _)
  · have lk := lots_ok N W k lot hlot
    rw [evalCond]
    exact cdL_eq m k s i o S t8 t9 (some (frz u)) lot hk lk.lt
  · intro _
    have lk := lots_ok N W k lot hlot
    have ll := lot_len lk
    exact add_lot (i := 12) (j := 10) (lot := lot) rfl rfl (by omega)
abbrev bdL : Ss := .cons (.set 11 (.bin .add (.v 11) cxL)) .nil
theorem bdL_eq (m k : Nat) (s : List Int) (i : Nat) (o : O) (S : PySem.Str) (t8 t9 : Option O) (os : List O) (hu : O.toDs os = lotD N k) (hk : k < N.length) (hn : N.length ≤ 12) : evalSs (cc m) Wf bdL (EL s i o N W S t8 t9 (some (zi k)) (some (.l os)) none) = .nx (EL s i o N W S t8 t9 (some (zi k)) (some (.l ((lotD N (k + 1)).map .z))) none) := by
  have l1 := lots_len N k
  have l2 : 2 ^ k ≤ 2 ^ 12 := Nat.pow_le_pow_right (by decide) (by omega)
  have l3 := List.length_filter_le (okL N k) (lots N k)
  have q := grow2 (C := cc m) (Wx := Wf) (i := 11) (x := cxL) (e := EL s i o N W S t8 t9 (some (zi k)) (some (.l os)) none) (os := os) (ds := lotD N k) rfl rfl hu (fun v hv => cxL_eq m k s i o S t8 t9 v hv hk hn) (toDs_lots _ (fun lot => lot ++ [k])) (by rw [List.length_map]; omega) (by rw [List.length_map]; omega)
  rw [← lotD_succ] at q
  rw [nxt q, nx0]
  rfl
abbrev cxM : RF.X := .comp (.blt .sum (.cons (.comp (.ix (.v 5) (.v 10)) (.nm 10) (.seq (.v 12)) .none [10]) .nil)) (.nm 12) (.seq (.v 11)) .none [12]
abbrev cxO : RF.X := .comp (.tup (.cons (.v 10) (.cons (.bin .add (.v 10) (.n 1)) .nil))) (.nm 10) (.rng1 (.bin .sub (.v 3) (.n 1))) .none [10]
abbrev S9b : RF.S := .ite (.or (.cons (.cmp .ne (.blt .max1 (.cons cxM .nil)) (.blt .max1 (.cons (.v 7) .nil))) (.cons (.cmp .ne (.call true f_fewest_changed (.cons (.v 4) (.cons (.v 5) (.cons cxO .nil)))) (.bin .sub (.blt .sum (.cons (.v 5) .nil)) (.blt .max1 (.cons (.v 7) .nil)))) .nil))) ff1 .nil
theorem s9b (r : Row N W) (h12 : N.length ≤ 12) (s : List Int) (i : Nat) (o : O) (S : PySem.Str) (t8 t9 a10 : Option O) : evalS (cc 19) Wf S9b (EL s i o N W S t8 t9 a10 (some (.l ((lotD N N.length).map .z))) none) = .nx (EL s i o N W S t8 t9 a10 (some (.l ((lotD N N.length).map .z))) none) := by
  have l1 := lots_len N N.length
  have l2 : 2 ^ N.length ≤ 2 ^ 12 := Nat.pow_le_pow_right (by decide) h12
  generalize hu : O.l ((lotD N N.length).map .z) = u
  have hu2 : u.toD = .lst (lotD N N.length) := by rw [← hu, toD_lz]
  have inner : ∀ lot ∈ lots N N.length, evalE (cc 19) (.blt .sum (.cons (.comp (.ix (.v 5) (.v 10)) (.nm 10) (.seq (.v 12)) .none [10]) .nil)) (EL s i o N W S t8 t9 a10 (some (frz u)) (some (.z (li (pl lot))))) = .ok (zi (sumW W lot)) (EL s i o N W S t8 t9 a10 (some (frz u)) (some (.z (li (pl lot))))) := fun lot hlot => by
    have lk := lots_ok N W N.length lot hlot
    have ll := lot_len lk
    have c : evalE (cc 19) (.comp (.ix (.v 5) (.v 10)) (.nm 10) (.seq (.v 12)) .none [10]) (EL s i o N W S t8 t9 a10 (some (frz u)) (some (.z (li (pl lot))))) = .ok (.l (lot.map fun j => zi (nth W j))) (EL s i o N W S t8 t9 a10 (some (frz u)) (some (.z (li (pl lot))))) :=
      ev_compA lot (fun (j : Nat) => D.int j) (fun j => zi (nth W j)) (it_seq (ev_v rfl) (by show D.lst _ = _; rw [pl, List.map_map]; rfl)) (fun j hj => ⟨EL s i o N W S t8 t9 (some (zi j)) (some (frz u)) (some (.z (li (pl lot)))), rfl, See.ix (See.z rfl) rfl (ev_v rfl) (by rw [r.wl]; exact lk.lt j hj), rfl⟩) (by omega) rfl (fun _ _ => rfl)
    rw [map_zi] at c
    exact sum_ok c
  have c1 : evalE (cc 19) cxM (EL s i o N W S t8 t9 a10 (some u) none) = .ok (ol ((lots N N.length).map (sumW W))) (EL s i o N W S t8 t9 a10 (some u) none) := by
    rw [show ol ((lots N N.length).map (sumW W)) = .l ((lots N N.length).map fun lot => zi (sumW W lot)) from by rw [ol, List.map_map]; rfl]
    exact ev_compA (env1 := EL s i o N W S t8 t9 a10 (some (frz u)) none) (lots N N.length) (fun lot => li (pl lot)) (fun lot => zi (sumW W lot)) (it_seq (ev_vz rfl) (by show u.toD = _; rw [hu2])) (fun lot hlot => ⟨EL s i o N W S t8 t9 a10 (some (frz u)) (some (.z (li (pl lot)))), rfl, inner lot hlot, rfl⟩) (by omega) rfl (fun _ _ => rfl)
  have mm := lots_max N W (n := N.length) (by have := r.n1; omega) (fun j hj => r.wpos hj)
  rw [← hts_map] at mm
  have m7 : evalE (cc 19) (.blt .max1 (.cons (.v 7) .nil)) (EL s i o N W S t8 t9 a10 (some u) none) = .ok (zi (mx (H N W))) (EL s i o N W S t8 t9 a10 (some u) none) := See.max (xs := H N W) (See.l rfl) r.hmax
  have q1 := ne_ok (max_ok c1 mm) m7
  rw [decide_eq_true rfl] at q1
  have n1 : evalE (cc 19) (.bin .sub (.v 3) (.n 1)) (EL s i o N W S t8 t9 a10 (some u) none) = .ok (zi (N.length - 1 : Nat)) (EL s i o N W S t8 t9 a10 (some u) none) := by
    rw [sub_ok (x := (N.length : Int)) (y := 1) (ev_v rfl) ev_n]
    congr 3
    have := r.n1
    omega
  have c2 : evalE (cc 19) cxO (EL s i o N W S t8 t9 a10 (some u) none) = .ok (.l ((List.range (N.length - 1)).map fun j => .z (tp j (j + 1)))) (EL s i o N W S t8 t9 a10 (some u) none) :=
    ev_compA (List.range (N.length - 1)) (fun (j : Nat) => D.int j) (fun j => .z (tp j (j + 1))) (it_rngN (by omega) n1) (fun j hj => ⟨EL s i o N W S t8 t9 (some (zi j)) (some u) none, rfl, tup2_ok (ev_v rfl) (by
      have := add_ok (C := cc 19) (x := (j : Int)) (y := 1) (e := EL s i o N W S t8 t9 (some (zi j)) (some u) none) (a := .v 10) (b := .n 1) (ev_v rfl) ev_n
      rw [show (j : Int) + 1 = ((j + 1 : Nat) : Int) from by omega] at this
      exact this), rfl⟩) (by rw [List.length_range]; omega) rfl (fun _ _ => rfl)
  have a2 : evalArgs (cc 19) (.cons (.v 4) (.cons (.v 5) (.cons cxO .nil))) [false, false, false] (EL s i o N W S t8 t9 a10 (some u) none) = .ok ([li N, li W, ordD N.length].map .val) (EL s i o N W S t8 t9 a10 (some u) none) := by
    have := arg_c (ev_v (C := cc 19) (e := EL s i o N W S t8 t9 a10 (some u) none) (i := 4) (d := li N) rfl) (arg_c (ev_v (i := 5) (d := li W) rfl) (arg_c c2 arg_0))
    rw [show (O.l ((List.range (N.length - 1)).map fun (j : Nat) => .z (tp j (j + 1)))).toD = ordD N.length from by simp only [O.toD]; rw [O.toDs_map, List.map_map]; rfl] at this
    exact this
  have q2 := ne_ok (rtn [li N, li W, ordD N.length] (sg_fewest_changed 19) a2 (fewest_eq r h12 11) rfl) (sub_ok (See.sum (C := cc 19) (xs := W) (i := 5) (See.z rfl)) m7)
  rw [decide_eq_true rfl] at q2
  exact ite_ff (or2_ok (x := false) (y := false) q1 q2)
abbrev S9 : RF.S := .ite (.cmp .lt (.v 3) (.n 11)) (.cons (.set 11 (.lst (.cons (.lst .nil) .nil))) (.cons (.for (.nm 10) (.rng1 (.v 3)) bdL) (.cons S9b .nil))) .nil
theorem s9 (r : Row N W) (s : List Int) (i : Nat) (o : O) (S : PySem.Str) (t8 t9 : Option O) : ∃ a10 a11, evalS (cc 19) Wf S9 (EL s i o N W S t8 t9 none none none) = .nx (EL s i o N W S t8 t9 a10 a11 none) := by
  have c : evalE (cc 19) (.cmp .lt (.v 3) (.n 11)) (EL s i o N W S t8 t9 none none none) = .ok (zb (decide ((N.length : Int) < 11))) (EL s i o N W S t8 t9 none none none) := lt_ok (ev_v rfl) ev_n
  by_cases h : (N.length : Int) < 11
  · rw [decide_eq_true h] at c
    have s2 : evalS (cc 19) Wf (.set 11 (.lst (.cons (.lst .nil) .nil))) (EL s i o N W S t8 t9 none none none) = .nx (EL s i o N W S t8 t9 none (some (.l [.l []])) none) := set_ok (lst1_ok ev_nil)
    obtain ⟨e', h1, os, x, hos, hos2, h2⟩ := ev_for (t := .nm 10) (body := fun e => evalSs (cc 19) Wf bdL e) (q := fun (j : Nat) => D.int j)
      (fun t e => ∃ os x, O.toDs os = lotD N t ∧ (0 < t → os = (lotD N t).map .z) ∧ e = EL s i o N W S t8 t9 x (some (.l os)) none) (xs := List.range N.length) (k := 0) (e := EL s i o N W S t8 t9 none (some (.l [.l []])) none) ⟨[.l []], none, rfl, (fun z => absurd z (Nat.lt_irrefl 0)), rfl⟩ (fun j x e hj ⟨os, a, ho, _, he⟩ => by
        obtain ⟨h, rfl⟩ := List.getElem?_eq_some_iff.mp hj
        simp only [List.length_range] at h
        simp only [List.getElem_range, Nat.zero_add] at he ho ⊢
        subst he
        exact ⟨EL s i o N W S t8 t9 (some (zi j)) (some (.l os)) none, _, rfl, bdL_eq 19 j s i o S t8 t9 os ho h (by omega), _, _, toDs_z _, (fun _ => rfl), rfl⟩)
    rw [Nat.zero_add, List.length_range] at hos hos2
    subst h2
    rw [hos2 (by have := r.n1; omega)] at h1
    refine ⟨x, some (.l ((lotD N N.length).map .z)), ?_⟩
    rw [st_ite c, if_pos rfl, nxt s2, nxt (for_ok (it_rngN (k := N.length) (by omega) (ev_v rfl)) h1), nxt (s9b r (by omega) s i o S t8 t9 x), nx0]
  · rw [decide_eq_false h] at c
    exact ⟨none, none, (by rw [st_ite c, if_neg Bool.false_ne_true, nx0])⟩
end
end K34
/-! K34j: the case: crossed numbers, what is changed, falls. -/
namespace K34
open RF
section
variable {N W : List Int}
theorem sumW_le (r : Row N W) : ∀ (P : List Nat), (∀ i ∈ P, i < N.length) → sumW W P ≤ 1000 * P.length
  | [], _ => by simp [sumW]
  | p :: P, h => by
    have a := sumW_le r P fun i hi => h i (List.mem_cons_of_mem _ hi)
    have b := r.wb _ (nth_mem (xs := W) (j := p) (by rw [r.wl]; exact h p List.mem_cons_self))
    unfold sumW at a ⊢
    simp only [List.map_cons, List.sum_cons, List.length_cons]
    omega
theorem Kept.mx_le (r : Row N W) {P : List Nat} (k : Kept N W P) : mx (H N W) ≤ 60000 := by
  have a := sumW_le r P k.lt
  rw [k.sum] at a
  have := k.len
  have := r.n2
  show mx (hts N W N.length) ≤ _
  omega
theorem Row.mx_pos (r : Row N W) : 1 ≤ mx (H N W) := by
  have := r.hpos _ (List.max?_eq_some_iff.mp r.hmax).1
  show 1 ≤ mx (hts N W N.length)
  omega
abbrev S10 : RF.S := .set 13 (.bin .add (.n 1) (.call false f__law_random (.cons (.v 2) (.cons (.blt .max1 (.cons (.v 7) .nil)) .nil))))
theorem s10 (r : Row N W) (s : List Int) (i k : Nat) (o : O) (S : PySem.Str) (t8 t9 a10 a11 : Option O) (hm : mx (H N W) ≤ 60000) (ho : Gn k o) (hk : k < 800000) : ∃ (c : Int) (o' : O), 1 ≤ c ∧ c ≤ mx (H N W) ∧ evalS (cc 19) Wf S10 (E s i o N W S t8 t9 a10 a11 none none none none none none none none none) = .nx (E s i o' N W S t8 t9 a10 a11 none (some (zi c)) none none none none none none none) := by
  have p := r.mx_pos
  have m7 : evalE (cc (17 + 2)) (.blt .max1 (.cons (.v 7) .nil)) (E s i o N W S t8 t9 a10 a11 none none none none none none none none none) = .ok (zi (mx (H N W))) (E s i o N W S t8 t9 a10 a11 none none none none none none none none none) := See.max (xs := H N W) (See.l rfl) r.hmax
  obtain ⟨q, o', h1, h2, h3, h4⟩ := rnd_in (i := 2) rfl ho (by omega) (by omega) ((show Sm 20 (mx (H N W)) by unfold Sm; omega).mono (by decide)) m7
  exact ⟨1 + q, o', by omega, by omega, set_ok (bin_okr (by intro i z; cases z) ev_n h1 rfl)⟩
def OV (N W : List Int) (c : Int) : List Nat := (List.range N.length).filter fun j => decide (ht N W j - nth W j < c) && decide (c ≤ ht N W j)
theorem ov_mem {c : Int} {j : Nat} : j ∈ OV N W c ↔ j < N.length ∧ ht N W j - nth W j < c ∧ c ≤ ht N W j := by
  unfold OV
  rw [List.mem_filter, List.mem_range]
  simp
theorem ov_up (c : Int) : (OV N W c).Pairwise fun i j => i < j ∧ nth N j < nth N i := by
  have q : (OV N W c).Pairwise fun i j => i < j := List.Pairwise.filter _ List.pairwise_lt_range
  refine List.Pairwise.imp_of_mem (fun {a b} ha hb hab => ⟨hab, ?_⟩) q
  have a1 := ov_mem.mp ha
  have b1 := ov_mem.mp hb
  exact cross_fall N W hab a1.2.2 b1.2.1
theorem ov_len (c : Int) : (OV N W c).length ≤ N.length := by
  have := List.length_filter_le (fun j => decide (ht N W j - nth W j < c) && decide (c ≤ ht N W j)) (List.range N.length)
  rw [List.length_range] at this
  exact this
theorem ov_ne (r : Row N W) {c : Int} (h1 : 1 ≤ c) (h2 : c ≤ mx (H N W)) : OV N W c ≠ [] := by
  have m := (List.max?_eq_some_iff.mp r.hmax).1
  rw [hts_map] at m
  obtain ⟨j, hj, e⟩ := List.mem_map.mp m
  have hj := List.mem_range.mp hj
  have e2 : ht N W j = mx (H N W) := by rw [e, ← hts_map]
  obtain ⟨i, q1, q2, q3⟩ := cross_some N W (c := c) (by omega) j j (Nat.le_refl j) (by omega)
  intro z
  have : i ∈ OV N W c := ov_mem.mpr ⟨by omega, q2, q3⟩
  rw [z] at this
  cases this
abbrev cx11 : RF.X := .comp (.v 10) (.nm 10) (.rng1 (.v 3)) (.some (.cmp2 .lt .le (.bin .sub (.ix (.v 7) (.v 10)) (.ix (.v 5) (.v 10))) (.v 13) (.ix (.v 7) (.v 10)))) [10]
abbrev S11 : RF.S := .set 14 cx11
theorem s11 (r : Row N W) (s : List Int) (i : Nat) (o : O) (S : PySem.Str) (t8 t9 a10 a11 : Option O) (c : Int) : evalS (cc 19) Wf S11 (E s i o N W S t8 t9 a10 a11 none (some (zi c)) none none none none none none none) = .nx (E s i o N W S t8 t9 a10 a11 none (some (zi c)) (some (ol (pl (OV N W c)))) none none none none none none) := by
  have n2 := r.n2
  have q := ev_comp (C := cc 19) (elt := .v 10) (t := .nm 10) (it := .rng1 (.v 3)) (cd := .some (.cmp2 .lt .le (.bin .sub (.ix (.v 7) (.v 10)) (.ix (.v 5) (.v 10))) (.v 13) (.ix (.v 7) (.v 10)))) (own := [10]) (env := E s i o N W S t8 t9 a10 a11 none (some (zi c)) none none none none none none none) (env1 := E s i o N W S t8 t9 a10 a11 none (some (zi c)) none none none none none none none) (List.range N.length) (fun (j : Nat) => D.int j) (fun j => decide (ht N W j - nth W j < c) && decide (c ≤ ht N W j)) (fun j => zi j)
    (it_rngN (k := N.length) (by omega) (ev_v rfl)) (fun j hj => by
      have hj := List.mem_range.mp hj
      refine ⟨E s i o N W S t8 t9 (some (zi j)) a11 none (some (zi c)) none none none none none none none, rfl, ?_, fun _ => ev_v rfl, rfl⟩
      have h7 : evalE (cc 19) (.ix (.v 7) (.v 10)) (E s i o N W S t8 t9 (some (zi j)) a11 none (some (zi c)) none none none none none none none) = .ok (zi (ht N W j)) (E s i o N W S t8 t9 (some (zi j)) a11 none (some (zi c)) none none none none none none none) := by
        have := See.ix (C := cc 19) (e := E s i o N W S t8 t9 (some (zi j)) a11 none (some (zi c)) none none none none none none none) (i := 7) (b := .v 10) (xs := H N W) (j := j) (See.l rfl) rfl (ev_v rfl) (by show j < (hts N W N.length).length; rw [hts_len]; exact hj)
        rw [show nth (H N W) j = ht N W j from ht_of N W hj] at this
        exact this
      rw [evalCond]
      exact cmp2_ok (sub_ok h7 (See.ix (i := 5) (See.z rfl) rfl (ev_v rfl) (by rw [r.wl]; exact hj))) (ev_v rfl) h7 rfl rfl)
    (by rw [List.length_range]; omega) rfl (fun _ _ _ => rfl)
  rw [map_zi _ (fun (j : Nat) => (j : Int))] at q
  exact set_ok q
abbrev S12 : RF.S := .ite (.or (.cons (.cmp .ne (.comp (.v 10) (.nm 10) (.rng2 (.n 1) (.blt .len (.cons (.v 14) .nil))) (.some (.cmp .ge (.ix (.v 4) (.ix (.v 14) (.v 10))) (.ix (.v 4) (.ix (.v 14) (.bin .sub (.v 10) (.n 1)))))) [10]) (.lst .nil)) (.cons (.cmp .eq (.v 14) (.lst .nil)) .nil))) ff1 .nil
theorem s12 (r : Row N W) (s : List Int) (i : Nat) (o : O) (S : PySem.Str) (t8 t9 a10 a11 : Option O) (c : Int) (h1 : 1 ≤ c) (h2 : c ≤ mx (H N W)) : evalS (cc 19) Wf S12 (E s i o N W S t8 t9 a10 a11 none (some (zi c)) (some (ol (pl (OV N W c)))) none none none none none none) = .nx (E s i o N W S t8 t9 a10 a11 none (some (zi c)) (some (ol (pl (OV N W c)))) none none none none none none) := by
  have n2 := r.n2
  have ne := ov_ne r h1 h2
  have up := ov_up (N := N) (W := W) c
  have ln := ov_len (N := N) (W := W) c
  have lt : ∀ i ∈ OV N W c, i < N.length := fun i hi => (ov_mem.mp hi).1
  generalize OV N W c = P at ne up ln lt ⊢
  let en (x : Option O) : RF.Env := E s i o N W S t8 t9 x a11 none (some (zi c)) (some (ol (pl P))) none none none none none none
  have l : evalE (cc 19) (.blt .len (.cons (.v 14) .nil)) (en a10) = .ok (zi P.length) (en a10) := by
    have := See.len (C := cc 19) (e := en a10) (i := 14) (xs := pl P) (See.l rfl)
    rw [pl_len] at this
    exact this
  have c1 : evalE (cc 19) (.comp (.v 10) (.nm 10) (.rng2 (.n 1) (.blt .len (.cons (.v 14) .nil))) (.some (.cmp .ge (.ix (.v 4) (.ix (.v 14) (.v 10))) (.ix (.v 4) (.ix (.v 14) (.bin .sub (.v 10) (.n 1)))))) [10]) (en a10) = .ok (.l []) (en a10) :=
    comp_nil (List.range (P.length - 1)) (fun (j : Nat) => D.int (1 + j : Nat)) (it_rng2 (m := 1) (n := P.length) (by decide) (by omega) ev_n l) (fun j hj => ⟨en (some (zi ((1 + j : Nat) : Int))), rfl, by
      have hj := List.mem_range.mp hj
      obtain ⟨x1, x2⟩ := nb_lt (C := cc 19) (e := en (some (zi ((1 + j : Nat) : Int)))) (P := P) (j := j) (c := 14) rfl rfl rfl (by omega) lt
      have q := ge_ok x1 x2
      have := (pair_at up (j := j) (by omega)).2
      rw [decide_eq_false (by simp only [Nat.add_comm 1 j]; omega)] at q
      exact q, rfl⟩) (by rw [List.length_range]; omega) rfl
  have v : viewE true (.v 14) (evalE (cc 19) (.v 14) (en a10)) (en a10) = .ok (li (pl P)) (en a10) := See.view (See.l rfl)
  have ok : ∀ d ∈ (pl P).map D.int, d.ok 59 = true := fun d hd => by
    obtain ⟨j, _, rfl⟩ := List.mem_map.mp hd
    rfl
  have em : ((pl P).map D.int).isEmpty = false := by
    cases P with
    | nil => exact absurd rfl ne
    | cons a b => rfl
  have q2 : evalE (cc 19) (.cmp .eq (.v 14) (.lst .nil)) (en a10) = .ok (zb false) (en a10) := by
    rw [evalE, show pureX (.lst .nil) = true from rfl, v]
    simp only [RF.R.bind_ok]
    rw [vw ev_nil]
    simp only [RF.R.bind_ok]
    rw [show (O.l []).toD = .lst [] from rfl, eq_nil ok, em]
    rfl
  exact ite_ff (or2_ok (x := false) (y := false) (nen_f c1) q2)
abbrev S13 : RF.S := .set 15 (.bin .sub (.blt .sum (.cons (.v 5) .nil)) (.blt .max1 (.cons (.v 7) .nil)))
abbrev cx14 : RF.X := .comp (.v 17) (.nm 17) (.seq (.sl (.v 4) (.some (.bin .add (.v 10) (.n 1))) .none)) (.some (.cmp .lt (.v 17) (.v 18))) [17]
abbrev S14 : RF.S := .set 16 (.blt .sum (.cons (.comp (.blt .len (.cons cx14 .nil)) (.tp [10, 18]) (.enum (.v 4)) .none [10, 18]) .nil))
theorem falls_sum (N : List Int) : ∀ k, ((List.range k).map fun j => ((fallsAt N j : Nat) : Int)).sum = fallsTo N k
  | 0 => rfl
  | k + 1 => by
    rw [List.range_succ, List.map_append, List.sum_append, falls_sum N k]
    simp [fallsTo]
theorem s14 (r : Row N W) (s : List Int) (i : Nat) (o : O) (S : PySem.Str) (t8 t9 a10 a11 a13 a14 a15 : Option O) : evalS (cc 19) Wf S14 (E s i o N W S t8 t9 a10 a11 none a13 a14 a15 none none none none none) = .nx (E s i o N W S t8 t9 a10 a11 none a13 a14 a15 (some (zi (fallsTo N N.length))) none none none none) := by
  have n2 := r.n2
  have inner : ∀ j : Nat, evalE (cc 19) cx14 (E s i o N W S t8 t9 (some (zi j)) a11 none a13 a14 a15 none none (some (zi (nth N j))) none none) = .ok (ol ((N.drop (j + 1)).filter fun x => decide (x < nth N j))) (E s i o N W S t8 t9 (some (zi j)) a11 none a13 a14 a15 none none (some (zi (nth N j))) none none) := fun j =>
    ev_comp (C := cc 19) (elt := .v 17) (t := .nm 17) (cd := .some (.cmp .lt (.v 17) (.v 18))) (own := [17]) (N.drop (j + 1)) (fun x => D.int x) (fun x => decide (x < nth N j)) (fun x => zi x)
      (it_seq (slF (i := 4) (a := .v 10) rfl (ev_v rfl) rfl) (toD_ol _)) (fun x hx => ⟨E s i o N W S t8 t9 (some (zi j)) a11 none a13 a14 a15 none (some (zi x)) (some (zi (nth N j))) none none, rfl, by rw [evalCond]; exact lt_ok (ev_v rfl) (ev_v rfl), fun _ => ev_v rfl, rfl⟩)
      (by rw [List.length_drop]; omega) rfl (fun _ _ _ => rfl)
  have c : evalE (cc 19) (.comp (.blt .len (.cons cx14 .nil)) (.tp [10, 18]) (.enum (.v 4)) .none [10, 18]) (E s i o N W S t8 t9 a10 a11 none a13 a14 a15 none none none none none) = .ok (.l ((List.range N.length).map fun j => zi ((fallsAt N j : Nat) : Int))) (E s i o N W S t8 t9 a10 a11 none a13 a14 a15 none none none none none) :=
    ev_compA (List.range N.length) (fun (j : Nat) => D.tup [.int j, .int (nth N j)]) (fun j => zi ((fallsAt N j : Nat) : Int)) (it_enum (ev_v rfl) rfl) (fun j hj => ⟨E s i o N W S t8 t9 (some (zi j)) a11 none a13 a14 a15 none none (some (zi (nth N j))) none none, rfl, by
      have l := len_ok (inner j)
      rw [List.length_map] at l
      exact l, rfl⟩) (by rw [List.length_range]; omega) rfl (fun _ _ => rfl)
  rw [map_zi] at c
  have q := sum_ok c
  rw [falls_sum] at q
  exact set_ok q
end
end K34
/-! K34k: the case: told again, refused. -/
namespace K34
open RF
/-- an owned list with owned items, joined -/
theorem catf_ok {C : Cfg} {i : Nat} {x : RF.X} {e : RF.Env} {os : List O} {ds fs : List D} {o : O} (hi : getE e i = some (.l os)) (hf : (O.l os).flat = false) (hp : pureX x = true) (ho : O.toDs os = ds) (hx : evalE C x (e.set i (some (frz (.l os)))) = .ok o (e.set i (some (frz (.l os))))) (hd : o.toD = .lst fs) (h1 : ds.length < 2 ^ 20) (h2 : fs.length < 2 ^ 20) : evalE C (.bin .add (.v i) x) e = .ok (.l ((ds ++ fs).map .z)) (e.set i (some (frz (.l os)))) := by
  have td : (O.l os).toD = .lst ds := by simp only [O.toD, ho]
  have v0 : viewE true (.v i) (evalE C (.v i) e) e = .ok (.lst ds) (e.set i (some (frz (.l os)))) := by
    simp only [viewE, hi, hf, Bool.and_false, Bool.false_eq_true, if_false, ev_vz hi, RF.R.bind_ok]
    show RF.R.ok (frz (.l os)).toD _ = _
    rw [show (frz (.l os)).toD = .lst ds from td]
  rw [evalE, hp, v0]
  simp only [RF.R.bind_ok]
  rw [vw hx]
  simp only [RF.R.bind_ok, hd, binop, lenOk_of h1, lenOk_of h2, Bool.and_self, if_true, ofOpt_some]
theorem ev_g {C : Cfg} {e : RF.Env} {f : Nat} : evalE C (.g f) e = .ok (.z (.fn f)) e := by rw [evalE]
section
variable {N W : List Int}
abbrev S15 : RF.S := .ite (.not (.call true f__law_same (.cons (.lst (.cons (.call true f_row_changed (.cons (.v 4) (.cons (.v 5) .nil))) (.cons (.callk f_row_changed .nil (.cons (.v 5) (.cons (.v 4) .nil)) [1, 0]) (.cons (.call true f_fall_count (.cons (.v 4) .nil)) (.cons (.callk f_fall_count .nil (.cons (.v 4) .nil) [0]) .nil))))) (.cons (.lst (.cons (.v 15) (.cons (.v 15) (.cons (.v 16) (.cons (.v 16) .nil))))) .nil)))) ff1 .nil
theorem s15 (r : Row N W) (s : List Int) (i : Nat) (o : O) (S : PySem.Str) (t8 t9 a10 a11 a13 a14 : Option O) : evalS (cc 19) Wf S15 (E s i o N W S t8 t9 a10 a11 none a13 a14 (some (zi (W.sum - mx (H N W)))) (some (zi (fallsTo N N.length))) none none none none) = .nx (E s i o N W S t8 t9 a10 a11 none a13 a14 (some (zi (W.sum - mx (H N W)))) (some (zi (fallsTo N N.length))) none none none none) := by
  have c := row_changed_eq r 13
  have f := fall_count_eq r 14
  have x : W.sum - mx (hts N W N.length) = W.sum - mx (H N W) := rfl
  rw [x] at c
  generalize W.sum - mx (H N W) = ch at c ⊢
  generalize fallsTo N N.length = fc at f ⊢
  have e1 : evalE (cc 19) (.lst (.cons (.call true f_row_changed (.cons (.v 4) (.cons (.v 5) .nil))) (.cons (.callk f_row_changed .nil (.cons (.v 5) (.cons (.v 4) .nil)) [1, 0]) (.cons (.call true f_fall_count (.cons (.v 4) .nil)) (.cons (.callk f_fall_count .nil (.cons (.v 4) .nil) [0]) .nil))))) (E s i o N W S t8 t9 a10 a11 none a13 a14 (some (zi ch)) (some (zi fc)) none none none none) = .ok (.l [zi ch, zi ch, zi fc, zi fc]) (E s i o N W S t8 t9 a10 a11 none a13 a14 (some (zi ch)) (some (zi fc)) none none none none) :=
    lst_ok (es_c (rtn [li N, li W] (sg_row_changed 19) (args2 rfl rfl) c rfl) (es_c (callk2 c (sg_row_changed 19) rfl rfl) (es_c (rtn [li N] (sg_fall_count 19) (args1 rfl) f rfl) (es_c (callk1 f (sg_fall_count 19) rfl) es_0))))
  have e2 : evalE (cc 19) (.lst (.cons (.v 15) (.cons (.v 15) (.cons (.v 16) (.cons (.v 16) .nil))))) (E s i o N W S t8 t9 a10 a11 none a13 a14 (some (zi ch)) (some (zi fc)) none none none none) = .ok (.l [zi ch, zi ch, zi fc, zi fc]) (E s i o N W S t8 t9 a10 a11 none a13 a14 (some (zi ch)) (some (zi fc)) none none none none) := lst_ok (es_c (ev_v rfl) (es_c (ev_v rfl) (es_c (ev_v rfl) (es_c (ev_v rfl) es_0))))
  have sm := same_self 1 17 (gd_li (xs := [ch, ch, fc, fc]) (by simp)) (by decide)
  have q := rtn [li [ch, ch, fc, fc], li [ch, ch, fc, fc]] (sg__law_same 19) (arg_c e1 (arg_c e2 arg_0)) sm rfl
  exact ite_ff (not_ok (b := true) q)
theorem toD2 (xs ys : List Int) : (O.l [ol xs, ol ys]).toD = .lst [li xs, li ys] := by
  simp only [O.toD, O.toDs]
  rw [toDs_zi, toDs_zi]
abbrev S16 : RF.S := .set 19 (.call true f__law_copied (.cons (.lst (.cons (.v 8) (.cons (.v 9) .nil))) .nil))
theorem s16 (r : Row N W) (s : List Int) (i : Nat) (o : O) (S : PySem.Str) (a10 a11 a13 a14 a15 a16 : Option O) {P : List Nat} (k : Kept N W P) : evalS (cc 19) Wf S16 (E s i o N W S (some (ol (H N W))) (some (ol (pl P))) a10 a11 none a13 a14 a15 a16 none none none none) = .nx (E s i o N W S (some (ol (H N W))) (some (ol (pl P))) a10 a11 none a13 a14 a15 a16 none none (some (.l [ol (H N W), ol (pl P)])) none) := by
  have n2 := r.n2
  have kl := k.len
  have hl : (H N W).length = N.length := hts_len N W _
  have cp := copied_2 16 (H N W) (pl P) (by omega) (by rw [pl_len]; omega)
  have e1 : evalE (cc 19) (.lst (.cons (.v 8) (.cons (.v 9) .nil))) (E s i o N W S (some (ol (H N W))) (some (ol (pl P))) a10 a11 none a13 a14 a15 a16 none none none none) = .ok (.l [.z (li (H N W)), .z (li (pl P))]) (E s i o N W S (some (.z (li (H N W)))) (some (.z (li (pl P)))) a10 a11 none a13 a14 a15 a16 none none none none) :=
    lst_e (es_e (ev_vol (xs := H N W) rfl) (es_e (ev_vol (xs := pl P) rfl) es_0))
  have q := rtn [.lst [li (H N W), li (pl P)]] (sg__law_copied 19) (arg_c e1 arg_0) cp (by simp [O.clean, O.cleans, clean_zi])
  exact set_ok q
abbrev S19 : RF.S := .ite (.not (.call true f__law_same (.cons (.lst (.cons (.call true f_row_heights (.cons (.v 4) (.cons (.v 5) .nil))) (.cons (.callk f_row_kept .nil (.cons (.v 5) (.cons (.v 4) .nil)) [1, 0]) .nil))) (.cons (.v 19) .nil)))) ff1 .nil
theorem s19 (r : Row N W) (s : List Int) (i : Nat) (o : O) (S : PySem.Str) (t8 t9 a10 a11 a13 a14 a15 a16 : Option O) {P : List Nat} (k : Kept N W P) (hk : g 19 f_row_kept [.z (li N), .z (li W)] = ret (ol (pl P))) : evalS (cc 19) Wf S19 (E s i o N W S t8 t9 a10 a11 none a13 a14 a15 a16 none none (some (.l [ol (H N W), ol (pl P)])) none) = .nx (E s i o N W S t8 t9 a10 a11 none a13 a14 a15 a16 none none (some (.l [ol (H N W), ol (pl P)])) none) := by
  have n2 := r.n2
  have kl := k.len
  have hl : (H N W).length = N.length := hts_len N W _
  have c := row_heights_eq r 13
  let en : RF.Env := E s i o N W S t8 t9 a10 a11 none a13 a14 a15 a16 none none (some (.l [ol (H N W), ol (pl P)])) none
  have e1 : evalE (cc 19) (.lst (.cons (.call true f_row_heights (.cons (.v 4) (.cons (.v 5) .nil))) (.cons (.callk f_row_kept .nil (.cons (.v 5) (.cons (.v 4) .nil)) [1, 0]) .nil))) en = .ok (.l [ol (H N W), ol (pl P)]) en :=
    lst_ok (es_c (rtn [li N, li W] (sg_row_heights 19) (args2 rfl rfl) c (clean_ol _)) (es_c (callk2 hk (sg_row_kept 19) rfl rfl) es_0))
  have sm := same_self 2 16 (gd2 (xs := H N W) (ys := pl P) (by omega) (by rw [pl_len]; omega)) (by decide)
  have a := arg_c e1 (arg_c (ev_vz (C := cc 19) (e := en) (i := 19) (o := .l [ol (H N W), ol (pl P)]) rfl) arg_0)
  rw [show (frz (.l [ol (H N W), ol (pl P)])).toD = (O.l [ol (H N W), ol (pl P)]).toD from rfl, toD2] at a
  have q := rtn [.lst [li (H N W), li (pl P)], .lst [li (H N W), li (pl P)]] (sg__law_same 19) a sm rfl
  exact ite_ff (not_ok (b := true) q)
abbrev dO (N W : List Int) (f : Nat) : O := .t [.z (.fn f), .l [.z (li N), .z (li W)]]
abbrev dX (f : Nat) : RF.X := .tup (.cons (.g f) (.cons (.lst (.cons (.v 4) (.cons (.v 5) .nil))) .nil))
abbrev DO (N W : List Int) : List O := [dO N W f_row_heights, dO N W f_row_kept, dO N W f_row_changed]
abbrev S20 : RF.S := .set 20 (.lst (.cons (dX f_row_heights) (.cons (dX f_row_kept) (.cons (dX f_row_changed) .nil))))
theorem dX_eq (m f : Nat) {e : RF.Env} (h4 : getE e 4 = some (.z (li N))) (h5 : getE e 5 = some (.z (li W))) : evalE (cc m) (dX f) e = .ok (dO N W f) e := tupT ev_g (lst_ok (es_c (ev_v h4) (es_c (ev_v h5) es_0))) rfl
theorem DO_toDs : O.toDs (DO N W) = (deeds3 N W).map fun p => D.tup [.fn p.1, .lst p.2] := by
  simp [O.toDs, O.toD]
abbrev xF : RF.X := .lst (.cons (.tup (.cons (.g f_fall_count) (.cons (.lst (.cons (.v 4) .nil)) .nil))) .nil)
abbrev S21 : RF.S := .ite (.not (.call true f__law_all_refused (.cons (.bin .add (.v 20) xF) (.cons (.n 0) (.cons (.s sN) (.cons (.call true f__law_wrong_numbers (.cons (.v 4) (.cons (.n 60) .nil))) .nil)))))) ff1 .nil
theorem s21 (r : Row N W) (s : List Int) (i : Nat) (o : O) (S : PySem.Str) (t8 t9 a10 a11 a13 a14 a15 a16 a19 : Option O) : evalS (cc 19) Wf S21 (E s i o N W S t8 t9 a10 a11 none a13 a14 a15 a16 none none a19 (some (.l (DO N W)))) = .nx (E s i o N W S t8 t9 a10 a11 none a13 a14 a15 a16 none none a19 (some (.l (DO N W)))) := by
  have n2 := r.n2
  have rn := refN r
  generalize hFs : deeds3 N W ++ [(f_fall_count, [li N])] = fs at rn
  let en (u : Option O) : RF.Env := E s i o N W S t8 t9 a10 a11 none a13 a14 a15 a16 none none a19 u
  have x1 : evalE (cc 19) xF (en (some (frz (.l (DO N W))))) = .ok (.l [.t [.z (.fn f_fall_count), .l [.z (li N)]]]) (en (some (frz (.l (DO N W))))) := lst_ok (es_c (tupT ev_g (lst_ok (es_c (ev_v rfl) es_0)) rfl) es_0)
  have x2 := catf_ok (C := cc 19) (i := 20) (x := xF) (e := en (some (.l (DO N W)))) (os := DO N W) (ds := (deeds3 N W).map fun p => D.tup [.fn p.1, .lst p.2]) (fs := [.tup [.fn f_fall_count, .lst [li N]]]) rfl rfl rfl DO_toDs x1 (by simp [O.toD, O.toDs]) (by simp) (by simp)
  have x2 : evalE (cc 19) (.bin .add (.v 20) xF) (en (some (.l (DO N W)))) = .ok (.l ((fs.map fun p => D.tup [.fn p.1, .lst p.2]).map .z)) (en (some (frz (.l (DO N W))))) := by
    rw [← hFs, List.map_append]
    exact x2
  obtain ⟨os, ho, w⟩ := wrongN_eq (N := N) 18 (by omega)
  have x3 : evalE (cc 19) (.call true f__law_wrong_numbers (.cons (.v 4) (.cons (.n 60) .nil))) (en (some (frz (.l (DO N W))))) = .ok (.l os) (en (some (frz (.l (DO N W))))) := rtv [li N, .int 60] (sg__law_wrong_numbers 19) (arg_c (ev_v rfl) (arg_c ev_n arg_0)) w
  have a := arg_c x2 (arg_c (ev_n (k := 0)) (arg_c (ev_s (x := sN)) (arg_c x3 arg_0)))
  rw [toD_lz, show (O.l os).toD = .lst (wN N) from by simp only [O.toD, ho]] at a
  have q := rtn [deedD fs, .int 0, .str sN, .lst (wN N)] (sg__law_all_refused 19) a rn rfl
  exact ite_ff (not_ok (b := true) q)
abbrev S22 : RF.S := .ret (.and (.cons (.call true f__law_all_refused (.cons (.v 20) (.cons (.n 1) (.cons (.s sW) (.cons (.call true f__law_wrong_weights (.cons (.v 5) .nil)) .nil))))) (.cons (.cmp .eq (.blt .repr (.cons (.lst (.cons (.v 4) (.cons (.v 5) .nil))) .nil)) (.v 6)) .nil)))
theorem str_eq {x : PySem.Str} (h : PySem.PyData.strOk x = true) : cmpop .eq (.str x) (.str x) = some true := by
  have e : D.eqv (.str x) (.str x) = true := by simp [D.eqv, D.py, PySem.PyData.eqv]
  simp [cmpop, D.ok, h, e]
theorem repr_eq (r : Row N W) {C : Cfg} {a : RF.X} {e e1 : RF.Env} {o : O} (hv : ∀ i, a ≠ .v i) (h : evalE C a e = .ok o e1) (ho : o.toD = .lst [li N, li W]) : evalE C (.blt .repr (.cons a .nil)) e = .ok (.z (.str (D.lst [li N, li W]).py.shown)) e1 := by
  have v : evalVs C (.cons a .nil) e = .ok [.lst [li N, li W]] e1 := by
    rw [evalVs, view_nv hv, h]
    simp only [RF.R.bind_ok, ho]
    rw [evalVs]
    rfl
  rw [evalE, v]
  simp only [RF.R.bind_ok, bltV, (repr_ok r).1, if_true, ofOpt_some]
theorem s22 (r : Row N W) (s : List Int) (i : Nat) (o : O) (t8 t9 a10 a11 a13 a14 a15 a16 a19 : Option O) : evalS (cc 19) Wf S22 (E s i o N W (D.lst [li N, li W]).py.shown t8 t9 a10 a11 none a13 a14 a15 a16 none none a19 (some (.l (DO N W)))) = .rt (zb true) (E s i o N W (D.lst [li N, li W]).py.shown t8 t9 a10 a11 none a13 a14 a15 a16 none none a19 (some (.l (DO N W)))) := by
  have n2 := r.n2
  have wl := r.wl
  have rw_ := refW r
  have so := (repr_ok r).2
  have rp := fun (e : RF.Env) (h4 : getE e 4 = some (.z (li N))) (h5 : getE e 5 = some (.z (li W))) => repr_eq r (C := cc 19) (a := .lst (.cons (.v 4) (.cons (.v 5) .nil))) (e := e) (e1 := e) (o := .l [.z (li N), .z (li W)]) (by intro i z; cases z) (lst_ok (es_c (ev_v h4) (es_c (ev_v h5) es_0))) rfl
  generalize (D.lst [li N, li W]).py.shown = S at so rp ⊢
  let en (u : Option O) : RF.Env := E s i o N W S t8 t9 a10 a11 none a13 a14 a15 a16 none none a19 u
  obtain ⟨os, ho, w⟩ := wrongW_eq (W := W) 18 (by omega)
  have x3 : evalE (cc 19) (.call true f__law_wrong_weights (.cons (.v 5) .nil)) (en (some (frz (.l (DO N W))))) = .ok (.l os) (en (some (frz (.l (DO N W))))) := rtv [li W] (sg__law_wrong_weights 19) (args1 rfl) w
  have a := arg_c (ev_vz (C := cc 19) (e := en (some (.l (DO N W)))) (i := 20) (o := .l (DO N W)) rfl) (arg_c (ev_n (k := 1)) (arg_c (ev_s (x := sW)) (arg_c x3 arg_0)))
  rw [show (frz (.l (DO N W))).toD = deedD (deeds3 N W) from by show D.lst (O.toDs (DO N W)) = _; rw [DO_toDs], show (O.l os).toD = .lst (wW W) from by simp only [O.toD, ho]] at a
  have q := rtn [deedD (deeds3 N W), .int 1, .str sW, .lst (wW W)] (sg__law_all_refused 19) a rw_ rfl
  have q2 := cmp_ok (p := .eq) (rp (en (some (.l (DO N W)))) rfl rfl) (ev_v (i := 6) rfl) (str_eq so)
  exact ret_ok (by intro i z; cases z) (and2_ok q q2)
end
end K34
/-! K34z: the law holds. -/
namespace K34
open RF
theorem draw_in {m f i k k' : Nat} {X : RF.X} {env : RF.Env} {o u r o' : O} (hs : (cc m).sig f = [true, false]) (hi : getE env i = some o) (ho : Gn k o) (ho' : Gn k' o') (hE : evalE (cc m) X env = .ok u env) (hg : g m f [o, .z u.toD] = .rt r [o']) : evalE (cc m) (.call false f (.cons (.v i) (.cons X .nil))) env = .ok r (env.set i (some o')) := by
  obtain ⟨a, b, c, rfl, _⟩ := ho.ex
  obtain ⟨a', b', c', rfl, _⟩ := ho'.ex
  exact call_ref hs hi hE hg
abbrev S2 : RF.S := .set 2 (.call true f__law_generator (.cons (.v 0) (.cons (.v 1) .nil)))
abbrev S3 : RF.S := .set 3 (.bin .add (.n 1) (.call false f__law_random (.cons (.v 2) (.cons (.ix (.lst (.cons (.n 60) (.cons (.n 10) (.cons (.n 4) .nil)))) (.v 1)) .nil))))
abbrev S4 : RF.S := .asg [4, 5] (.tup (.cons (.call false f__law_drawn_numbers (.cons (.v 2) (.cons (.v 3) .nil))) (.cons (.call false f__law_drawn_weights (.cons (.v 2) (.cons (.v 3) .nil))) .nil)))
abbrev S5 : RF.S := .asg [6, 7] (.tup (.cons (.blt .repr (.cons (.lst (.cons (.v 4) (.cons (.v 5) .nil))) .nil)) (.cons (.call true f__law_heights (.cons (.v 4) (.cons (.v 5) .nil))) .nil)))
abbrev S6 : RF.S := .asg [8, 9] (.tup (.cons (.call true f_row_heights (.cons (.v 4) (.cons (.v 5) .nil))) (.cons (.call true f_row_kept (.cons (.v 4) (.cons (.v 5) .nil))) .nil)))
abbrev F21 (s : List Int) (i : Nat) (a2 a3 a4 a5 a6 a7 a8 a9 : Option O) : RF.Env := [some (.z (.scr s)), some (zi i), a2, a3, a4, a5, a6, a7, a8, a9, none, none, none, none, none, none, none, none, none, none, none]
theorem s3 (s : List Int) (i k : Nat) (o : O) (hi : i < 3) (ho : Gn k o) (hk : k < 800000) : ∃ (n : Nat) (o' : O), 1 ≤ n ∧ n ≤ 60 ∧ Gn (k + 10) o' ∧ evalS (cc 19) Wf S3 (F21 s i (some o) none none none none none none none) = .nx (F21 s i (some o') (some (zi n)) none none none none none none) := by
  obtain ⟨b, hb, h1, h2⟩ : ∃ b : Int, L2.atI [D.int 60, D.int 10, D.int 4] (i : Int) = some (.int b) ∧ 1 ≤ b ∧ b ≤ 60 := by
    rw [atI_nat]
    match i, hi with
    | 0, _ => exact ⟨60, rfl, by decide, by decide⟩
    | 1, _ => exact ⟨10, rfl, by decide, by decide⟩
    | 2, _ => exact ⟨4, rfl, by decide, by decide⟩
  have x : evalE (cc (17 + 2)) (.ix (.lst (.cons (.n 60) (.cons (.n 10) (.cons (.n 4) .nil)))) (.v 1)) (F21 s i (some o) none none none none none none none) = .ok (zi b) (F21 s i (some o) none none none none none none none) := by
    have l : evalE (cc (17 + 2)) (.lst (.cons (.n 60) (.cons (.n 10) (.cons (.n 4) .nil)))) (F21 s i (some o) none none none none none none none) = .ok (.l [zi 60, zi 10, zi 4]) (F21 s i (some o) none none none none none none none) := lst_ok (es_c ev_n (es_c ev_n (es_c ev_n es_0)))
    rw [evalE, vw l]
    simp only [RF.R.bind_ok]
    rw [ev_v (i := 1) (d := .int i) rfl]
    simp only [RF.R.bind_ok]
    show ofOpt ((L2.atI [D.int 60, D.int 10, D.int 4] (i : Int)).map O.z) _ = _
    rw [hb]
    rfl
  obtain ⟨q, o', h3, h4, h5, h6⟩ := rnd_in (i := 2) rfl ho (by omega) (by omega) ((show Sm 20 b by unfold Sm; omega).mono (by decide)) x
  refine ⟨(1 + q).toNat, o', by omega, by omega, h6, ?_⟩
  have e : zi (((1 + q).toNat : Nat) : Int) = zi (1 + q) := by congr 2; omega
  rw [e]
  exact set_ok (bin_okr (by intro i z; cases z) ev_n h3 rfl)
theorem case_eq (s : List Int) (i : Nat) (hi : i < 3) : g 20 f__law_case_right [.z (.scr s), zi i] = ret (zb true) := by
  obtain ⟨o, hg, ho⟩ := gen_eq 17 s i hi
  have t2 : evalS (cc 19) Wf S2 (F21 s i none none none none none none none none) = .nx (F21 s i (some o) none none none none none none none) := set_ok (rtv [.scr s, .int i] (sg__law_generator 19) (args2 rfl rfl) hg)
  obtain ⟨n, o1, n1, n2, ho1, t3⟩ := s3 s i 2000 o hi ho (by omega)
  obtain ⟨N, o2, hN, lN, bN, ho2⟩ := numbers_eq 15 n _ o1 ho1 (by omega) (by omega)
  obtain ⟨W, o3, hW, lW, bW, ho3⟩ := weights_eq 15 n _ o2 ho2 (by omega) (by omega)
  have r : Row N W := ⟨by omega, by omega, by omega, bN, bW⟩
  obtain ⟨P, kp, hP⟩ := row_kept_eq r 13
  have t4 : evalS (cc 19) Wf S4 (F21 s i (some o1) (some (zi n)) none none none none none none) = .nx (F21 s i (some o3) (some (zi n)) (some (ol N)) (some (ol W)) none none none none) :=
    asg2 (tupT (draw_in (sg__law_drawn_numbers 19) rfl ho1 ho2 (ev_v rfl) hN) (draw_in (sg__law_drawn_weights 19) rfl ho2 ho3 (ev_v rfl) hW) rfl)
  have z4 : evalE (cc 19) (.lst (.cons (.v 4) (.cons (.v 5) .nil))) (F21 s i (some o3) (some (zi n)) (some (ol N)) (some (ol W)) none none none none) = .ok (.l [.z (li N), .z (li W)]) (F21 s i (some o3) (some (zi n)) (some (.z (li N))) (some (.z (li W))) none none none none) :=
    lst_e (es_e (ev_vol (xs := N) rfl) (es_e (ev_vol (xs := W) rfl) es_0))
  have z5 := repr_eq r (by intro i z; cases z) z4 rfl
  have z6 : evalE (cc 19) (.call true f__law_heights (.cons (.v 4) (.cons (.v 5) .nil))) (F21 s i (some o3) (some (zi n)) (some (.z (li N))) (some (.z (li W))) none none none none) = .ok (ol (H N W)) (F21 s i (some o3) (some (zi n)) (some (.z (li N))) (some (.z (li W))) none none none none) := rtn [li N, li W] (sg__law_heights 19) (args2 rfl rfl) (heights2_eq N W 18 (by omega) (by omega)) (clean_ol _)
  have sm22 := fun a10 a11 a13 a14 a15 a16 a19 t8 t9 o => s22 r s i o t8 t9 a10 a11 a13 a14 a15 a16 a19
  have t5 : evalS (cc 19) Wf S5 (F21 s i (some o3) (some (zi n)) (some (ol N)) (some (ol W)) none none none none) = .nx (F21 s i (some o3) (some (zi n)) (some (.z (li N))) (some (.z (li W))) (some (.z (.str (D.lst [li N, li W]).py.shown))) (some (ol (H N W))) none none) := asg2 (tupT z5 z6 rfl)
  generalize (D.lst [li N, li W]).py.shown = S at t5 sm22
  rw [← lN] at t3 t4 t5
  have t6 : evalS (cc 19) Wf S6 (F21 s i (some o3) (some (zi N.length)) (some (.z (li N))) (some (.z (li W))) (some (.z (.str S))) (some (ol (H N W))) none none) = .nx (E s i o3 N W S (some (ol (H N W))) (some (ol (pl P))) none none none none none none none none none none none) :=
    asg2 (tupT (rtn [li N, li W] (sg_row_heights 19) (args2 rfl rfl) (row_heights_eq r 13) (clean_ol _)) (rtn [li N, li W] (sg_row_kept 19) (args2 rfl rfl) hP (clean_ol _)) rfl)
  have t7 := s7 r s i o3 S kp
  have t8 := s8 r s i o3 S (some (ol (H N W))) kp
  obtain ⟨a10, a11, t9⟩ := s9 r s i o3 S (some (ol (H N W))) (some (ol (pl P)))
  obtain ⟨c, o4, c1, c2, t10⟩ := s10 r s i _ o3 S (some (ol (H N W))) (some (ol (pl P))) a10 a11 (kp.mx_le r) ho3 (by omega)
  have t11 := s11 r s i o4 S (some (ol (H N W))) (some (ol (pl P))) a10 a11 c
  have t12 := s12 r s i o4 S (some (ol (H N W))) (some (ol (pl P))) a10 a11 c c1 c2
  have t13 : evalS (cc 19) Wf S13 (E s i o4 N W S (some (ol (H N W))) (some (ol (pl P))) a10 a11 none (some (zi c)) (some (ol (pl (OV N W c)))) none none none none none none) = .nx (E s i o4 N W S (some (ol (H N W))) (some (ol (pl P))) a10 a11 none (some (zi c)) (some (ol (pl (OV N W c)))) (some (zi (W.sum - mx (H N W)))) none none none none none) :=
    set_ok (sub_ok (See.sum (i := 5) (xs := W) (See.z rfl)) (See.max (i := 7) (xs := H N W) (See.l rfl) r.hmax))
  have t14 := s14 r s i o4 S (some (ol (H N W))) (some (ol (pl P))) a10 a11 (some (zi c)) (some (ol (pl (OV N W c)))) (some (zi (W.sum - mx (H N W))))
  have t15 := s15 r s i o4 S (some (ol (H N W))) (some (ol (pl P))) a10 a11 (some (zi c)) (some (ol (pl (OV N W c))))
  have t16 := s16 r s i o4 S a10 a11 (some (zi c)) (some (ol (pl (OV N W c)))) (some (zi (W.sum - mx (H N W)))) (some (zi (fallsTo N N.length))) kp
  have kl := kp.len
  have t17 : evalS (cc 19) Wf (.app 8 (.n 0)) (E s i o4 N W S (some (ol (H N W))) (some (ol (pl P))) a10 a11 none (some (zi c)) (some (ol (pl (OV N W c)))) (some (zi (W.sum - mx (H N W)))) (some (zi (fallsTo N N.length))) none none (some (.l [ol (H N W), ol (pl P)])) none) = .nx (E s i o4 N W S (some (.l ((H N W).map zi ++ [zi 0]))) (some (ol (pl P))) a10 a11 none (some (zi c)) (some (ol (pl (OV N W c)))) (some (zi (W.sum - mx (H N W)))) (some (zi (fallsTo N N.length))) none none (some (.l [ol (H N W), ol (pl P)])) none) :=
    app_ok (os := (H N W).map zi) rfl ev_n (by rw [List.length_map]; have : (H N W).length = N.length := hts_len N W _; omega)
  have t18 : evalS (cc 19) Wf (.app 9 (.n 0)) (E s i o4 N W S (some (.l ((H N W).map zi ++ [zi 0]))) (some (ol (pl P))) a10 a11 none (some (zi c)) (some (ol (pl (OV N W c)))) (some (zi (W.sum - mx (H N W)))) (some (zi (fallsTo N N.length))) none none (some (.l [ol (H N W), ol (pl P)])) none) = .nx (E s i o4 N W S (some (.l ((H N W).map zi ++ [zi 0]))) (some (.l ((pl P).map zi ++ [zi 0]))) a10 a11 none (some (zi c)) (some (ol (pl (OV N W c)))) (some (zi (W.sum - mx (H N W)))) (some (zi (fallsTo N N.length))) none none (some (.l [ol (H N W), ol (pl P)])) none) :=
    app_ok (os := (pl P).map zi) rfl ev_n (by rw [List.length_map, pl_len]; omega)
  have t19 := s19 r s i o4 S (some (.l ((H N W).map zi ++ [zi 0]))) (some (.l ((pl P).map zi ++ [zi 0]))) a10 a11 (some (zi c)) (some (ol (pl (OV N W c)))) (some (zi (W.sum - mx (H N W)))) (some (zi (fallsTo N N.length))) kp hP
  have t20 : evalS (cc 19) Wf S20 (E s i o4 N W S (some (.l ((H N W).map zi ++ [zi 0]))) (some (.l ((pl P).map zi ++ [zi 0]))) a10 a11 none (some (zi c)) (some (ol (pl (OV N W c)))) (some (zi (W.sum - mx (H N W)))) (some (zi (fallsTo N N.length))) none none (some (.l [ol (H N W), ol (pl P)])) none) = .nx (E s i o4 N W S (some (.l ((H N W).map zi ++ [zi 0]))) (some (.l ((pl P).map zi ++ [zi 0]))) a10 a11 none (some (zi c)) (some (ol (pl (OV N W c)))) (some (zi (W.sum - mx (H N W)))) (some (zi (fallsTo N N.length))) none none (some (.l [ol (H N W), ol (pl P)])) (some (.l (DO N W)))) :=
    set_ok (lst_ok (es_c (dX_eq 19 _ rfl rfl) (es_c (dX_eq 19 _ rfl rfl) (es_c (dX_eq 19 _ rfl rfl) es_0))))
  have t21 := s21 r s i o4 S (some (.l ((H N W).map zi ++ [zi 0]))) (some (.l ((pl P).map zi ++ [zi 0]))) a10 a11 (some (zi c)) (some (ol (pl (OV N W c)))) (some (zi (W.sum - mx (H N W)))) (some (zi (fallsTo N N.length))) (some (.l [ol (H N W), ol (pl P)]))
  have t22 := sm22 a10 a11 (some (zi c)) (some (ol (pl (OV N W c)))) (some (zi (W.sum - mx (H N W)))) (some (zi (fallsTo N N.length))) (some (.l [ol (H N W), ol (pl P)])) (some (.l ((H N W).map zi ++ [zi 0]))) (some (.l ((pl P).map zi ++ [zi 0]))) o4
  rw [at__law_case_right, run_eq (h := rfl)]
  show RF.finish [false, false] (evalSs (cc 19) Wf (.cons S2 (.cons S3 (.cons S4 (.cons S5 (.cons S6 (.cons S7 (.cons S8 (.cons S9 (.cons S10 (.cons S11 (.cons S12 (.cons S13 (.cons S14 (.cons S15 (.cons S16 (.cons (.app 8 (.n 0)) (.cons (.app 9 (.n 0)) (.cons S19 (.cons S20 (.cons S21 (.cons S22 .nil))))))))))))))))))))) (F21 s i none none none none none none none none)) = _
  rw [nxt t2, nxt t3, nxt t4, nxt t5, nxt t6, nxt t7, nxt t8, nxt t9, nxt t10, nxt t11, nxt t12, nxt t13, nxt t14, nxt t15, nxt t16, nxt t17, nxt t18, nxt t19, nxt t20, nxt t21, nxr t22]
  rfl
theorem math (s : List Int) : run s = .rt (.z (.bl true)) [] := by
  show runF (cc 20) Wf d_law [.z (.scr s)] = _
  rw [run_eq (h := rfl)]
  let bd : Ss := .cons (.ite (.not (.call true f__law_case_right (.cons (.v 0) (.cons (.v 1) .nil)))) ff1 .nil) .nil
  obtain ⟨e', h1, x, h2⟩ := ev_for (t := .nm 1) (body := fun e => evalSs (cc 20) Wf bd e) (q := fun (j : Nat) => D.int j)
    (fun _ e => ∃ x, e = [some (.z (.scr s)), x]) (xs := List.range 3) (k := 0) (e := [some (.z (.scr s)), none]) ⟨none, rfl⟩ (fun j x e hj ⟨a, he⟩ => by
      obtain ⟨h, rfl⟩ := List.getElem?_eq_some_iff.mp hj
      simp only [List.length_range] at h
      simp only [List.getElem_range] at he ⊢
      subst he
      have c := rtn [.scr s, .int j] (sg__law_case_right 20) (args2 (e := [some (.z (.scr s)), some (zi j)]) (i := 0) (j := 1) rfl rfl) (case_eq s j h) rfl
      exact ⟨[some (.z (.scr s)), some (zi j)], _, rfl, by show evalSs (cc 20) Wf (.cons _ .nil) _ = _; rw [nxt (ite_ff (not_ok (b := true) c)), nx0], _, rfl⟩)
  subst h2
  show RF.finish [false] (evalSs (cc 20) Wf (.cons (.for (.nm 1) (.rng1 (.n 3)) bd) (.cons (.ret (.tt true)) .nil)) [some (.z (.scr s)), none]) = _
  have it : evalIt (cc 20) (.rng1 (.n 3)) [some (.z (.scr s)), none] = .ok ((List.range 3).map fun (j : Nat) => D.int j) [some (.z (.scr s)), none] := it_rngN (k := 3) (by decide) ev_n
  rw [nxt (for_ok it h1), nxr (ret_ok (by intro i z; cases z) ev_tt)]
  rfl
end K34
theorem PySem.Challenge.cw_risingfits_k34_whole_falls_of_rows_holds : PySem.Challenge.rw_risingfits_k34_whole_falls_of_rows.Holds := by
  exact K34.holds_of fun s _ _ => K34.math s
