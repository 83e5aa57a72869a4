import PyProof.Rows.All
import Wide.All
import OpenK.AllK
import Wide.FinOn
import KE.KExcSuper
import HandS.Base
import HandS.Call
import HandS.Exc
import HandS.ExcInit
import HandS.Nested
import HandS.ExcField
import HandS.ExcIs
import KE.KExcIs
import HandS.Lambda
import KE.KFmtOwn
import HandS.ForMost
import HandS.More
import HandS.IsInst
import HandS.SlotsOwn
import HandS.ClsMeth
import HandS.FStr
import HandS.Defaults
import HandS.Wide
import HandS.Text
import HandS.Property
import HandS.Small
import HandS.RaiseMore
import HandS.Iter
import HandS.TryOnly
import KE.GoesEnum
import HandS.Comp
import HandS.Style
import PyProof.ReprRoads
import HandS.Dict
import KE.KStateDown
import Lean
import HandS.Ends
import HandS.Words
import HandS.WordsExc
import HandS.Head0
import HandS.Head1
import HandS.Head2
import HandS.HeadEnd
import HandS.HeadHook1
import HandS.HeadHook2
import HandS.HeadNt
import HandS.HeadHook4
import HandS.EndBits
import KE.KLam
import PySem.Challenge.RW_slidpane_k01_amounts_reckoned
set_option Elab.async false
set_option linter.all false
set_option maxRecDepth 100000
set_option maxHeartbeats 1000000
namespace SP
open PySem PySem.Spec PyProof.Rows L2
/-! ### super().__init__(..) in an own exception's __init__, over ValueError -/
/-- the wrapper called -/
theorem call_mw {X : Cx} {pins : List (Addr × Obj)} {σ : L2.St} {H : Hp} {s : Shared} {A : Around} {E : Value → Shared → Prop} {a C u : Addr} {us : List Value} {Q : Value → Shared → Prop} (T : OexC X.K C) (I : Inv X pins σ H s) (e : H a = some (exo a C none))
    (hu : s.heap.get? u = some (PySem.W.kxs_mw "ValueError.__init__" a)) (hl : us.length ≤ sizeLine) (h : ∀ s', Inv X pins σ H s' → Q .none s') : wpAny (model X.prog X.w) A (call (.ref u) us) Q E s := by
  obtain ⟨nm, q, N, bs, bm, sn, sub, ab, col, dd, k0, k1, k2, k3, k5, hC, hbm⟩ := T.cls
  obtain ⟨t1, ho⟩ := exo_at I.hok e
  obtain ⟨hp, g, d, t, os⟩ := s
  refine wpAny_call (codeAny_of_tree ?_)
  show wpAny _ A.in1 (callAny (.ref u) ⟨us, []⟩) _ _ _
  simp only [callAny]
  refine wpAny_bind (wpAny_load hu ?_)
  simp only [PySem.W.kxs_mw, show (Value.type "method-wrapper" == Value.type "method" || Value.type "method-wrapper" == Value.type "builtin_function_or_method" || Value.type "method-wrapper" == Value.type "method-wrapper") = true by decide, if_true]
  refine PySem.W.KFB.if_so (by decide) ?_
  refine wpAny_bind (PySem.W.check_bound_init F.excBase_ValueError.toExcCallFacts (I.kIn _ _ hC) ho rfl ?_)
  refine wpAny_bind (wpAny_pure (wpAny_pure ?_))
  refine ⟨plainId_quiet F.excBase_ValueError.init.plain _, codeAny_builtin F.excBase_ValueError.initEntry ?_⟩
  refine PySem.W.exc_init_tree (cls := .ref C) (t0 := t1) (dv := none) (c2 := .none) (c3 := .none) (b4 := .bool false) ho hl fun h' k hx _ => ?_
  have J := I.write (t' := t) (x := a) (e := a) (o := exo a C none) (by rw [e]; exact True.intro) (.inl rfl) k ⟨_, hx⟩ (exo_ok hx)
  have eu : upd H a (exo a C none) = H := by
    funext b
    by_cases hb : b = a
    · rw [hb, upd_same, e]
    · rw [upd_ne hb]
  rw [eu] at J
  exact h _ J
theorem lookup_one (y x : Str) (c : Addr) : ([(x, c)] : List (Str × Addr)).lookup y = if y = x then some c else none := by
  by_cases h : y = x
  · subst h
    simp [List.lookup]
  · have e : (y == x) = false := by simpa using h
    rw [if_neg h]
    simp [List.lookup, e]
/-- what is written of such a def -/
structure SupF (P : Program) (K : PySem.W.Frag) (mg : Str → Option Value) (F : NdefX.NF) (D cc f : Addr) : Prop where
  cl : F.cl = [(("__class__" : Str), cc)]
  code : ∃ (ccl : Value) (cdd : Option Addr) (vs : Array Value) (ccs : Array (Option Value)) (file : Str) (tf : Tok), K.lookup F.c = some ⟨ccl, cdd, .fields vs, ccs⟩ ∧ vs[2]? = some (.str file tf) ∧ ((P.main.file : Str) == file) = true
  cell : ∃ (c : Value) (cld : Option Addr) (csl : Array (Option Value)), K.lookup cc = some ⟨c, cld, .cell (some (.ref D)), csl⟩
  dcls : ∃ cd, PySem.W.clsIn K D = some cd
  sup : mg "super" = none
  top : (P.main.scope.names.lookup ("super" : Str)).isSome = false
  st : PySem.W.nsIn K PySem.cStatics "thirdparty.any" = some none
/-- .. and of the class that is made -/
structure SupC (K : PySem.W.Frag) (C D : Addr) : Prop where
  oex : OexC K C
  sub : PySem.W.mroIn K C (.ref D) = some true
  ini : PySem.W.ks_superIn K C D "__init__" = some (some (.builtin "ValueError.__init__"))
  ve : PySem.W.subIn K (.ref C) (.type "ValueError") = some true
section
variable {CX : CXT} {P : Program} {w : World} {K : PySem.W.Frag} {mg : Str → Option Value} {base : Heap} {N ps : List Str} {k : Nat} {f cc D : Addr} {F : NdefX.NF} {sp : Sp}
theorem fn_super {dV kV doc pm ct oc : Value} {an od : Option Addr} {osl : Array (Option Value)} {p0 p1 apos pos epos : Pos} {e : Expr} {es : List Expr} {rest : List Stmt} {ar : Arg}
    (lk : K.lookup f = some ⟨oc, od, .func (PySem.W.fnX F.name F.qual F.params F.body F.scope F.cl dV kV doc pm an (.ref F.c) ct), osl⟩) (hcd : PySem.W.codeIn K (.ref F.c) F.qual = true) (Z : SupF P K mg F D cc f) (S : NdefX.NScope N ps ["__class__"] F.scope)
    (hbd : F.body = .Expr (.Call (.Attribute (.Call (.Name "super" p0) [] [] p1) "__init__" apos) (e :: es) [] pos) epos :: rest) (hp : (F.params.posonlyargs ++ F.params.args).head? = some ar) (hps : ps[0]? = some ar.arg)
    (hks : F.scope.names.lookup ("super" : Str) = some .globalImplicit) (len : ∀ vs H Q E, sp vs H Q E → vs.length = ps.length)
    (hev : ∀ env : Env, ∃ pl : Sem Bool, eval (.Call (.Attribute (.Call (.Name "super" p0) [] [] p1) "__init__" apos) (e :: es) [] pos) env = (do
      let ov ← attributeBase (.Call (.Name "super" p0) [] [] p1) "__init__" env (eval (.Call (.Name "super" p0) [] [] p1) env)
      standAt apos.atName
      let (f, first) ← holding [ov] (getMethod ov "__init__" pl)
      callWith pos f first (backTo pos (starEach (e :: es) env)) []))
    (he : ∀ env : Env, starEach (e :: es) env = (false, eval e env) :: starEach es env) (hpl : ∀ env : Env, (backTo pos (starEach es env)).any (·.1) = false)
    (hbody : ∀ (A : Around) (outer : List Env) (s : Shared) (H : Hp) (vs : List V) (Q : VK) (E : XK), Room k (A.deeper (NdefX.envF F f s.heap.objs.size)) → sp vs H Q E →
      ∃ ta t a C, vs[0]? = some (.ref a) ∧ SupC K C D ∧ H a = some (exo a C none) ∧ PA (NdefX.ncx CX P w K mg base N F f A outer s H E) (e :: es) ta ∧ PSs (NdefX.ncx CX P w K mg base N F f A outer s H E) rest t ∧
        ta (NdefX.startF N vs [some (.ref D)]) H fun us H1 => us.length ≤ 1000 ∧ H1 a = some (exo a C none) ∧ t { nx := fun _ H' => Q .non H', rt := Q } (NdefX.startF N vs [some (.ref D)]) H1) :
    FnOk P w K mg base CX (k + 1) f (PySem.W.fnX F.name F.qual F.params F.body F.scope F.cl dV kV doc pm an (.ref F.c) ct) ps sp := by
  refine ⟨len, fun A outer s H args us vs Q E hr e0 hb r hsp => ?_⟩
  have hl := len _ _ _ _ hsp
  have KX : K.In s.heap := e0.mod.kin.keeps fun b o e => (e0.bs b o e).1
  have lim : s.heap.NoLimit := e0.mod.nolimit.keeps fun b o e => (e0.bs b o e).1
  obtain ⟨cl, cld, csl, hcell⟩ := Z.cell
  refine ks_codeAny_call_defAt (body := F.body) hr.depth (KX _ _ lk) rfl lim (PySem.W.codeRec_of KX hcd) rfl hb S.nocell (fun ⟨n, _⟩ hy => S.par n (List.of_mem_zip hy).1) (fun h₁ hns kp => ?_) S.co S.gen S.kind
  show PySem.wpAt _ (A.deeper (NdefX.envF F f s.heap.objs.size)) (.func F.body (NdefX.envF F f s.heap.objs.size)) (execs F.body (NdefX.envF F f s.heap.objs.size)) _ _ _
  obtain ⟨ta, t, a, C, hva, SC, ha, hPA, hPS, hq⟩ := hbody A outer s H vs Q E (hr.deeper _) hsp
  have look1 : ∀ y c, F.cl.lookup y = some c → y = ("__class__" : Str) ∧ c = cc := fun y c hy => by
    rw [Z.cl, lookup_one] at hy
    by_cases e1 : y = ("__class__" : Str)
    · rw [if_pos e1] at hy
      exact ⟨e1, (Option.some.inj hy).symm⟩
    · rw [if_neg e1] at hy
      cases hy
  have look2 : F.cl.lookup ("__class__" : Str) = some cc := by rw [Z.cl, lookup_one, if_pos rfl]
  have hcc : s.heap.get? cc = some ⟨cl, cld, .cell (some (.ref D)), csl⟩ := KX _ _ hcell
  have CL : NdefX.CellsAt F.cl ["__class__"] [some (V.ref D)] s.heap H := by
    refine ⟨rfl, fun y c hy => ?_, fun x y c h1 h2 => ((look1 x c h1).1.trans (look1 y c h2).1.symm), fun i y hy => ?_⟩
    · obtain ⟨rfl, rfl⟩ := look1 y c hy
      exact ⟨(e0.bs _ _ (e0.mod.kin _ _ hcell)).2, _, _, hcc, rfl⟩
    · cases i with
      | zero =>
        simp at hy
        subst hy
        exact ⟨cc, look2, fun v hv => ⟨.ref D, by simp at hv; subst hv; rfl, _, hcc, rfl⟩⟩
      | succ i => simp at hy
  have I : Inv (NdefX.ncx CX P w K mg base N F f A outer s H E) [] (NdefX.startF N vs [some (V.ref D)]) H { s with heap := h₁, toks := s.toks + (ps.zip us).length } := NdefX.inv_startN S hr.hd e0 hl r CL hns kp
  obtain ⟨ccl, cdd, vsC, ccs, file, tf, hcode, hvs, hfile⟩ := Z.code
  obtain ⟨cdD, hD⟩ := Z.dcls
  obtain ⟨u0, hu0, ru0⟩ := r.get hva
  obtain rfl : u0 = Value.ref a := ru0
  have ndP : ps.Nodup := by
    have q := S.nd.sublist (List.take_sublist (ps.length + [("__class__" : Str)].length) N)
    rw [S.pre] at q
    exact (List.nodup_append.mp q).1
  have hself : (ps.zip us).reverse.lookup ar.arg = some (Value.ref a) := NdefX.zip_look ndP hps hu0
  rw [hbd]
  obtain ⟨pl, hev⟩ := hev (NdefX.envF F f s.heap.objs.size)
  have hint : interactive (NdefX.envF F f s.heap.objs.size) = false := by
    unfold interactive
    show (F.scope.kind == .module && _) = false
    rw [S.kind]
    rfl
  refine ks_wpAt_execs_cons (ks_wpAt_Expr_any (ks_wpAt_MethodCall ?_ hev) hint rfl)
  have kI := I.kIn
  obtain ⟨oD, hD1, hD2⟩ : ∃ oD, h₁.get? D = some oD ∧ oD.data = .cls cdD := by
    unfold PySem.W.clsIn at hD
    split at hD
    · rename_i c d cd' sl ho
      cases hD
      exact ⟨_, kI _ _ ho, rfl⟩
    · cases hD
  obtain ⟨t1, hoa⟩ := exo_at I.hok ha
  obtain ⟨mb, hb1, hb2⟩ := e0.mod.blt
  refine ks_wpAt_super_base (env := NdefX.envF F f s.heap.objs.size) hks (S.frk _ (by simp)) (by decide) rfl (kI _ _ lk) rfl hp rfl (kI _ _ hcode) rfl hvs hfile Z.top ?_
  refine PySem.W.ks_loadName_global S.kind hks (Calls.loadGlobal_builtin (env := NdefX.envF F f s.heap.objs.size) (e0.mod.glob.keeps I.bk) Z.sup (hb1.keeps I.bk) ((hb2 "super" (by decide)).trans (by decide +kernel : bootBuiltins "super" = some (.type "super"))) ⟨rfl, ?_⟩)
  refine wpAny_loadName_free S.kind (S.frk _ (by simp)) look2 ⟨_, kI _ _ hcell, rfl⟩ ?_
  refine wpAny_loadName_local S.kind (S.par _ (List.mem_of_getElem? hps)) hns hself ?_
  refine ks_wpAny_isType_cls hD1 hD2 ⟨rfl, ?_⟩
  refine ks_wpAny_call_super hD1 hD2 hoa rfl (fun c e => by cases e) (PySem.W.looks_mroIn kI SC.sub) (fun h2 hso k2 => ?_)
  have I2 : Inv (NdefX.ncx CX P w K mg base N F f A outer s H E) [] (NdefX.startF N vs [some (V.ref D)]) H { s with heap := h2, toks := s.toks + (ps.zip us).length } := I.kept k2
  have kI2 := I2.kIn
  obtain ⟨cdC, hcC⟩ : ∃ cd, PySem.W.clsIn K C = some cd := by
    cases hc : PySem.W.clsIn K C with
    | none =>
      have := SC.ini
      unfold PySem.W.ks_superIn at this
      rw [hc] at this
      cases this
    | some cd => exact ⟨cd, rfl⟩
  have hal : PySem.W.alongIn K "__init__" ((cdC.mro.dropWhile (· != .ref D)).drop 1) = some (some (.builtin "ValueError.__init__")) := by
    have := SC.ini
    unfold PySem.W.ks_superIn at this
    rw [hcC] at this
    exact this
  have hoa2 := k2 _ _ hoa
  have IA : PySem.W.InstAt h2 a { cls := .ref C, dict := none, data := .fields #[.ref t1, .none, .none, .none, .bool false, .none] } C none := ⟨hoa2, rfl, rfl, trivial⟩
  have hI : PySem.W.Looks (model P w) h2 (isInstance (.ref a) (.type "ValueError")) true := IA.type.andThen (PySem.W.looks_subIn kI2 SC.ve)
  refine PySem.W.kxs_getMethod PySem.W.kxs_ValueError hso (PySem.W.looks_opaque kI2 Z.st) (l₀ := cdC.mro) (fun A Q E s k q => wpAny_bind ((PySem.W.looks_clsIn kI2 hcC) A _ E s k (wpAny_pure q))) rfl kI2 hal hI (PySem.W.ks_ne kI2 IA hcC) (by decide) ?_
  show wpAny _ _ (callWith pos (.ref h2.objs.size) [] (backTo pos (starEach (e :: es) (NdefX.envF F f s.heap.objs.size))) []) _ _ _
  have J2 : Inv (NdefX.ncx CX P w K mg base N F f A outer s H E) [] (NdefX.startF N vs [some (V.ref D)]) H { s with heap := h2.push (PySem.W.kxs_mw "ValueError.__init__" a), toks := s.toks + (ps.zip us).length + 1 } := I2.kept fun b o e => Heap.get?_push_of_some _ e
  have hput : (h2.push (PySem.W.kxs_mw "ValueError.__init__" a)).get? h2.objs.size = some (PySem.W.kxs_mw "ValueError.__init__" a) := Heap.get?_push_at rfl rfl
  have I3 : Inv (NdefX.ncx CX P w K mg base N F f A outer s H E) [(h2.objs.size, PySem.W.kxs_mw "ValueError.__init__" a)] (NdefX.startF N vs [some (V.ref D)]) H { s with heap := h2.push (PySem.W.kxs_mw "ValueError.__init__" a), toks := s.toks + (ps.zip us).length + 1 } := by
    refine ⟨J2.ok, J2.os, J2.bare, J2.base, J2.loc, J2.cell, J2.free, J2.freeC, fun p hp => ?_, J2.hok, J2.len⟩
    have hp : p ∈ ([] : List (Addr × Obj)) ++ [(h2.objs.size, PySem.W.kxs_mw "ValueError.__init__" a)] := hp
    simp at hp
    subst hp
    exact ⟨hput, I2.hok.fresh (Nat.le_refl _), fun z => absurd I2.lt (by rw [← z]; exact Nat.lt_irrefl _), I2.nofs (Nat.le_refl _), fun v z => by cases z⟩
  have hrun := hPA.run pos _ _ _ _ _ I3 hq
  have he' : starEach (e :: es) (NdefX.ncx CX P w K mg base N F f A outer s H E).env = (false, eval e (NdefX.ncx CX P w K mg base N F f A outer s H E).env) :: starEach es (NdefX.ncx CX P w K mg base N F f A outer s H E).env := he _
  rw [he'] at hrun
  rw [he]
  refine PySem.W.kxs_callWith (i := "ValueError.__init__") (x := a) (by show (false || (backTo pos (starEach es _)).any (·.1)) = false; rw [hpl]; rfl) (Calls.evalArgs_plain ?_)
  refine wpAny_mono hrun (fun ws s4 h4 => ?_) fun _ _ z => z
  obtain ⟨vs4, H1, I4, r4, l4, ha4, q4⟩ := h4
  have hu4 : s4.heap.get? h2.objs.size = some (PySem.W.kxs_mw "ValueError.__init__" a) := (I4.pin _ (List.mem_append_right _ (List.mem_singleton.mpr rfl))).1
  refine ⟨hu4, ?_⟩
  refine call_mw SC.oex I4 ha4 hu4 (by rw [List.nil_append, ← Paired.length r4, sizeLine_eq]; omega) fun s5 J => ?_
  refine wpAt_of_wpAny (wpAny_mono (hPS.run _ _ _ _ _ J q4) (fun fl s' hs => ?_) fun e s' hs => hs)
  have fin : ∀ {σ' : L2.St} {H' : Hp} {v : V} {u : Value}, Inv (NdefX.ncx CX P w K mg base N F f A outer s H E) [(h2.objs.size, PySem.W.kxs_mw "ValueError.__init__" a)] σ' H' s' → L2.RelV v u → Q v H' → CE outer P w H s Q u s' :=
    fun {σ' H' v u} J rv q => ⟨v, H', J.os, J.bare, J.base, J.hok, rv, q⟩
  cases fl with
  | ret u =>
    obtain ⟨v, σ', H', J, rv, q⟩ := hs
    exact fin J rv q
  | next =>
    obtain ⟨σ', H', J, q⟩ := hs
    exact fin (v := V.non) (u := Value.none) J rfl q
  | brk =>
    obtain ⟨_, _, _, q⟩ := hs
    exact False.elim q
  | cont =>
    obtain ⟨_, _, _, q⟩ := hs
    exact False.elim q
end
end SP
set_option Elab.async false
set_option linter.all false
set_option maxRecDepth 100000
set_option maxHeartbeats 1000000
namespace SP
open PySem PySem.Spec PyProof.Rows L2
/-! ### a caught exception is a tracked object -/
/-- at a: an exception of the class cls, its dict d -/
def exk (a : Addr) (cls : Value) (d : Option Addr) : HO := .ext fun h => ∃ oe : Obj, h.get? a = some oe ∧ Zc cls d oe ∧ ∃ vs, oe.data = .fields vs
theorem exk_ok {P : Program} {w : World} {H : Hp} {h : Heap} {a : Addr} {cls : Value} {d : Option Addr} {oe : Obj} (e : h.get? a = some oe) (z : Zc cls d oe) (f : ∃ vs, oe.data = .fields vs) : ObjOk P w H h a (exk a cls d) :=
  ⟨⟨oe, e, z, f⟩, ⟨_, e⟩, fun h1 h2 q k => by
    obtain ⟨o, q1, q2⟩ := q
    exact ⟨o, k _ q1, q2⟩⟩
theorem exk_at {P : Program} {w : World} {H : Hp} {h : Heap} {a : Addr} {cls : Value} {d : Option Addr} (hok : HOk P w H h) (e : H a = some (exk a cls d)) : ∃ oe : Obj, h.get? a = some oe ∧ Zc cls d oe ∧ ∃ vs, oe.data = .fields vs := by
  have x : ObjOk P w H h a (.ext fun h => ∃ oe : Obj, h.get? a = some oe ∧ Zc cls d oe ∧ ∃ vs, oe.data = .fields vs) := hok a _ e
  exact x.1
section
variable {X : Cx} {pins : List (Addr × Obj)} {σ : L2.St} {H : Hp} {s : Shared} {a : Addr} {cls : Value} {d : Option Addr} {oe : Obj}
theorem track (I : Inv X pins σ H s) (ha : s.heap.get? a = some oe) (z : Zc cls d oe) (f : ∃ vs, oe.data = .fields vs) (h0 : X.s_0.heap.get? a = none) (hn : H a = none) (np : ∀ p ∈ X.pn ++ pins, p.1 ≠ a) (nl : a ≠ X.env.locals) (nc : ∀ x c, X.env.cells.lookup x = some c → c ≠ a) :
    Inv X pins σ (upd H a (exk a cls d)) s := by
  have ne0 : ∀ {b : Addr} {o : Obj}, X.s_0.heap.get? b = some o → b ≠ a := fun {b o} e q => by
    rw [q, h0] at e
    cases e
  have neH : ∀ {b : Addr} {o : HO}, H b = some o → b ≠ a := fun {b o} e q => by
    rw [q, hn] at e
    cases e
  refine ⟨I.ok, I.os, I.bare, ⟨I.base.keep, I.base.slot, fun b o e n hx => ?_, I.base.there, fun b xs e => ?_, fun b o u e => ?_, fun b ps e => ?_⟩, I.loc, I.cell, ?_, fun x c e => ?_, fun p hp => ?_, fun b o e => ?_, I.len⟩
  · rw [upd_ne (ne0 e)]
    exact I.base.free b o e n hx
  · have := I.base.tups b xs e
    rw [upd_ne (neH this)]
    exact this
  · have := I.base.frzs b o u e
    rw [upd_ne (neH this)]
    exact this
  · obtain ⟨more, this⟩ := I.base.tbls b ps e
    exact ⟨more, by rw [upd_ne (neH this)]; exact this⟩
  · rw [upd_ne (Ne.symm nl)]
    exact I.free
  · rw [upd_ne (nc x c e)]
    exact I.freeC x c e
  · obtain ⟨q1, q2, q3⟩ := I.pin p hp
    exact ⟨q1, by rw [upd_ne (np p hp)]; exact q2, q3⟩
  · by_cases hb : b = a
    · subst hb
      rw [upd_same] at e
      cases e
      exact exk_ok ha z f
    · rw [upd_ne hb] at e
      exact (I.hok b o e).stay (fun _ _ _ q => q) (fun c q => by rw [upd_ne (neH q)]; exact q) (fun c xs q => by rw [upd_ne (neH q)]; exact q)
end
/-! ### try .. except C as n: the suite knows the exception as an object -/
/-- what is wanted of an exception in the body: the clause catches it -/
def wTrk (K : PySem.W.Frag) (c : Value) (i : Nat) (ts : Addr → TS) (D : Ends) : WX := fun cls d σ H => PySem.W.exmOne K cls c = some true ∧
  ∀ a, H a = none → ts a { nx := fun σ1 H1 => D.nx (σ1.set i none) H1, rt := D.rt, bk := fun σ1 H1 => D.bk (σ1.set i none) H1, ct := fun σ1 H1 => D.ct (σ1.set i none) H1 } (σ.set i (some (.ref a))) (upd H a (exk a cls d))
section
variable {X : Cx} {x n : Str} {c : Value} {i : Nat} {body suite : List Stmt} {b0 : Stmt} {np pos pos' : Pos} {tb : WX → TS} {ts : Addr → TS}
theorem ps_tryT (hs : X.stack = X.env :: X.outer) (hf : X.env.frame = some X.env.locals) (hN : X.N.Nodup) (hi : X.N[i]? = some n) (hln : X.env.kindOf n = some .local) (hc : Names X x c) (hex : X.ex = [])
    (hb : ∀ (W : WX) (pn : List (Addr × Obj)) (xe : Value → Shared → Prop), Takes (X.tr pn xe) W → PassesOwn (model X.prog X.w) X.A X.env xe → PSs (X.tr pn xe) body (tb W))
    (hsu : ∀ (a : Addr) (pn : List (Addr × Obj)), PSs (X.suite a pn) (b0 :: suite) (ts a)) :
    PS X (.Try body [.ExceptHandler (some (.Name x np)) (some n) (b0 :: suite) pos'] [] [] pos) (fun D σ H => tb (wTrk X.K c i ts D) D σ H) := by
  refine ⟨fun pins s σ H D I h => wpAny_Try_except ?_⟩
  have ok := I.ok
  have hfr : X.A.frames = some (X.env :: X.outer) := ok.frames.trans (by rw [hs])
  refine wpAny_mono ((hb (wTrk X.K c i ts D) (X.pn ++ pins) _ (fun u s1 xx => ?_) PassesOwn.looking).run [] s σ H D (I.toTry _) h) (fun fl s1 hsp => ?_) (fun e s1 he => he)
  rotate_left
  · cases fl with
    | next =>
      obtain ⟨σ1, H1, J, q⟩ := hsp
      exact wpAny_execs_nil ⟨σ1, H1, J.ofTry ok, q⟩
    | brk =>
      obtain ⟨σ1, H1, J, q⟩ := hsp
      exact ⟨σ1, H1, J.ofTry ok, q⟩
    | cont =>
      obtain ⟨σ1, H1, J, q⟩ := hsp
      exact ⟨σ1, H1, J.ofTry ok, q⟩
    | ret u =>
      obtain ⟨v, σ1, H1, J, r, q⟩ := hsp
      exact ⟨v, σ1, H1, J.ofTry ok, r, q⟩
  · obtain ⟨a, B, sI, pins1, σ1, H1, cls, d, rfl, J0, nb, up, sky, na, os, ag, hb1, hyes⟩ := xx
    have J : Inv X pins σ1 H1 sI := J0.ofTry ok
    rw [show (X.tr (X.pn ++ pins) _).stack = X.env :: X.outer from hs] at sky
    refine Sky.land Zc.steady hfr hf sky fun h3 fl3 up3 => ?_
    obtain ⟨oe3, vs3, he3, hz3, hd3⟩ := fl3.there
    have nfr : a ∉ frs (X.env :: X.outer) := fun hm => by
      obtain ⟨_, o1, e1, hnf⟩ := fl3.2.2.1.mem hm
      rw [he3] at e1
      cases e1
      exact hnf _ hd3
    have nI : sI.heap.get? a = none := by
      cases q : sI.heap.get? a with
      | none => rfl
      | some o =>
        have := nb a o q (by rw [show (X.tr (X.pn ++ pins) _).stack = X.env :: X.outer from hs]; exact nfr)
        rw [fl3.2.1] at this
        cases this
    have ne : ∀ {b : Addr} {o : Obj}, sI.heap.get? b = some o → b ≠ a := fun {b o} e q => by
      rw [q, nI] at e
      cases e
    have h0 : X.s_0.heap.get? a = none := by
      cases q : X.s_0.heap.get? a with
      | none => rfl
      | some o =>
        obtain ⟨o1, e1⟩ := J.base.there a o q (by rw [hex]; simp)
        rw [nI] at e1
        cases e1
    have nL : a ≠ X.env.locals := fun z => nfr (List.mem_filterMap.mpr ⟨X.env, List.mem_cons_self, by rw [hf, z]⟩)
    have npn : ∀ p ∈ X.pn ++ pins, p.1 ≠ a := fun p hp => ne (J.pin p hp).1
    have nc : ∀ x c, X.env.cells.lookup x = some c → c ≠ a := fun x c e => by
      obtain ⟨v, o, q, _⟩ := J.cell x c e
      exact ne q
    have inS : ∀ {σ2 : L2.St} {H2 : Hp} {s2 : Shared}, Inv X pins σ2 H2 s2 → Inv (X.suite a (X.pn ++ pins)) [] σ2 H2 s2 := fun {σ2 H2 s2} Z => ⟨ok.suite _ _, Z.os, Z.bare, Z.base, Z.loc, Z.cell, Z.free, Z.freeC, fun p hp => Z.pin p (by rw [List.append_nil] at hp; exact hp), Z.hok, Z.len⟩
    have outS : ∀ {σ2 : L2.St} {H2 : Hp} {s2 : Shared}, Inv (X.suite a (X.pn ++ pins)) [] σ2 H2 s2 → Inv X pins σ2 H2 s2 := fun {σ2 H2 s2} Z => ⟨ok, Z.os, Z.bare, Z.base, Z.loc, Z.cell, Z.free, Z.freeC, fun p hp => Z.pin p (List.mem_append_left _ hp), Z.hok, Z.len⟩
    have J3 : Inv X pins σ1 H1 { s1 with heap := h3 } := J.landed nb fl3.1 (up.trans up3) os ag
    refine wpAny_handleBy_cons (codeAny_handlers_test ?_) (by intro q; cases q)
    have LM := PySem.W.exm_one (M := model X.prog X.w) J3.kIn (show PySem.W.Looks (model X.prog X.w) h3 (typeOf (.ref a)) cls from fun A Q E s k q => wpAny_typeOf_ref (k _ _ he3) (by rw [hz3.1]; exact q)) hb1
    have test : ∀ {Q : Value → Shared → Prop} {E : Value → Shared → Prop}, Q c { s1 with heap := h3 } → wpAny (model X.prog X.w) (X.A.mark (some (.ref a))) (eval (.Name x np) X.env) Q E { s1 with heap := h3 } := fun {Q E} q => by
      obtain ⟨hg, hdbg, hm | ⟨hm, hv, hnn⟩⟩ := hc
      · exact ld_glob (X := X.suite a (X.pn ++ pins)) (inS J3) hg hm q hdbg
      · exact ld_blt (X := X.suite a (X.pn ++ pins)) (inS J3) hg hm hv q hnn hdbg
    refine test (LM.here ?_)
    refine codeAny_handlers_suite_as (HandSPX.lands_againZ fl3 fun h4 fl4 up4 => ?_)
    obtain ⟨oe4, vs4, he4, hz4, hd4⟩ := fl4.there
    have J4 : Inv X pins σ1 (upd H1 a (exk a cls d)) { s1 with heap := h4 } := track (J.landed (s' := { s1 with heap := h4 }) nb fl4.1 ((up.trans up3).trans up4) os ag) he4 hz4 ⟨_, hd4⟩ h0 na npn nL nc
    refine store_ok (X := X.suite a (X.pn ++ pins)) (v := .ref a) (inS J4) hN hi (.inl hln) rfl (fun s5 S5 => ?_) (.inr hln)
    refine wpAny_mono ((hsu a (X.pn ++ pins)).run [] s5 _ _ _ S5 (hyes a na)) (fun fl s6 hsp => ?_) (fun _ _ z => False.elim z)
    cases fl with
    | next =>
      obtain ⟨σ6, H6, S6, q6⟩ := hsp
      exact gone_ok (outS S6) hN hi hln fun s7 J7 => ⟨_, _, J7, q6⟩
    | brk =>
      obtain ⟨σ6, H6, S6, q6⟩ := hsp
      exact gone_ok (outS S6) hN hi hln fun s7 J7 => ⟨_, _, J7, q6⟩
    | cont =>
      obtain ⟨σ6, H6, S6, q6⟩ := hsp
      exact gone_ok (outS S6) hN hi hln fun s7 J7 => ⟨_, _, J7, q6⟩
    | ret u =>
      obtain ⟨v6, σ6, H6, S6, r6, q6⟩ := hsp
      exact gone_ok (outS S6) hN hi hln fun s7 J7 => ⟨_, _, _, J7, r6, q6⟩
end
end SP
set_option Elab.async false
set_option linter.all false
set_option maxRecDepth 100000
set_option maxHeartbeats 1000000
namespace SP
open PySem PySem.Spec PyProof.Rows L2
/-! ### fields of a tracked exception -/
def tXk (K : PySem.W.Frag) (f : Str) (te : TE) : TE := fun σ H Q => te σ H fun x H1 => ∃ (a C dd : Addr) (fs : List (Str × V)) (v : V), x = .ref a ∧ H1 a = some (exk a (.ref C) (some dd)) ∧ XfC K C ∧ PySem.W.findIn K (.ref C) f = some none ∧ H1 dd = some (.xd fs) ∧ fs.lookup f = some v ∧ Q v H1
theorem pe_xk {X : Cx} {e : Expr} {te : TE} {pos : Pos} {n : Str} (he : PE X e te) (hb : attributeBase e n X.env (eval e X.env) = eval e X.env := by rfl) : PE X (.Attribute e n pos) (tXk X.K n te) := by
  refine ⟨fun pins s σ H Q I h => attr_of hb (thn (he.run pins s σ H _ I h) fun u s1 ⟨x, H1, I1, rx, a, C, dd, fs, v, ex, ea, T, hno, ed, l, q⟩ => ?_)⟩
  subst ex
  obtain rfl : u = Value.ref a := rx
  obtain ⟨oe, ha, hz, vs, hd⟩ := exk_at I1.hok ea
  have hx : ObjOk X.prog X.w H1 s1.heap dd (.xd fs) := I1.hok dd _ ed
  obtain ⟨mA, hns, hr⟩ := hx
  obtain ⟨od, ho, hl⟩ := lookIn_ns hns
  obtain ⟨u, hu, ru⟩ := RelO.some_of (v := v) (o := mA n) (by rw [← l]; exact hr n)
  have J : PySem.W.InstAt s1.heap a oe C (some od) := ⟨ha, hz.1, by unfold PySem.W.notCls; rw [hd] <;> rfl, by rw [hz.2]; exact ho⟩
  exact HandSPX.exc_get I1.kIn J T.ga T.gg T.exC (PySem.W.findObj_own T.hdC hno rfl (by rw [hl, hu])) (handed_of ru) ⟨v, H1, I1.tok _, ru, q⟩
/-! ### isinstance of a tracked exception -/
def rIsK (K : PySem.W.Frag) : List V → Hp → VK → Prop := fun xs H Q => ∃ (a D : Addr) (d : Option Addr) (c : V) (cv : Value) (b : Bool), xs = [.ref a, c] ∧ H a = some (exk a (.ref D) d) ∧ (d = none ∨ ∃ dd fs, d = some dd ∧ H dd = some (.xd fs)) ∧ ExcC K D ∧ (∀ u, RelV c u → u = cv) ∧
  PySem.W.kitOne K (.ref D) cv = some b ∧ Q (.bl b) H
theorem call_isK {X : Cx} : CallR X (.builtin "isinstance") (rIsK X.K) := by
  intro pins s σ H xs us Q I r h
  obtain ⟨a, D, d, c, cv, b, rfl, ea, hd, C, hcv, e, q⟩ := h
  cases r with
  | cons rx rr =>
    cases rr with
    | cons rt rr =>
      cases rr
      cases rx
      cases hcv _ rt
      obtain ⟨oe, ha, hz, vs, hdt⟩ := exk_at I.hok ea
      have hcl : (PySem.W.clsIn X.K D).isSome = true := by
        obtain ⟨cd, hc, _⟩ := PySem.W.any_some C.hd
        rw [hc]
        rfl
      have nn : PySem.W.notCls oe = true := by
        unfold PySem.W.notCls
        rw [hdt] <;> rfl
      obtain ⟨od, J⟩ : ∃ od, PySem.W.InstAt s.heap a oe D od := by
        rcases hd with rfl | ⟨dd, fs, rfl, ed⟩
        · exact ⟨none, ha, hz.1, nn, by rw [hz.2]; trivial⟩
        · have hx : ObjOk X.prog X.w H s.heap dd (.xd fs) := I.hok dd _ ed
          obtain ⟨mA, hns, hr⟩ := hx
          obtain ⟨od, ho, hl⟩ := lookIn_ns hns
          exact ⟨some od, ha, hz.1, nn, by rw [hz.2]; exact ho⟩
      exact PySem.W.kia_one (PySem.W.kitx_exc hcl C.hg C.hk C.hs C.ha C.hn C.ht C.hm) I.kIn J e (fun z => nomatch z) fun tk => ⟨.bl b, H, I.kept (t' := tk) fun _ _ z => z, rfl, q⟩
/-- one of two readings of a call -/
theorem call_or {X : Cx} {f : Value} {r1 r2 : List V → Hp → VK → Prop} (h1 : CallR X f r1) (h2 : CallR X f r2) : CallR X f fun xs H Q => r1 xs H Q ∨ r2 xs H Q := by
  intro pins s σ H xs us Q I r h
  rcases h with h | h
  · exact h1 pins s σ H xs us Q I r h
  · exact h2 pins s σ H xs us Q I r h
end SP
set_option Elab.async false
set_option linter.all false
set_option maxRecDepth 100000
set_option maxHeartbeats 1000000
namespace MP
open PySem PySem.Spec PyProof.Rows L2 SP
/-! ### values as trees, a store of what changes, results -/
inductive D where
  | non | bl (b : Bool) | int (i : Int) | str (x : Str) | ty (n : String) | glo (x : Str)
  | tup (xs : List D) | lst (xs : List D) | slst (xs : List D) | dic (kvs : List (Key × D))
  | ins (c : Str) (fs : List (Str × D)) | exc (c : Str) (fs : List (Str × D))
  | mref (k : Nat) | lam (id : Nat) (cap : List D)
  deriving Inhabited
/-- what changes: a list, an instance; or what has ceased to change -/
inductive MO where
  | lst (xs : List D) | ins (c : Str) (fs : List (Str × D)) | frz (d : D)
abbrev Sto := List MO
inductive Res (α : Type) where
  | ok (a : α) (s : Sto) | exc (e : D) (s : Sto) | bad
abbrev MM (α : Type) := Sto → Res α
def Res.bind {α β : Type} (r : Res α) (f : α → MM β) : Res β := match r with
  | .ok a s => f a s
  | .exc e s => .exc e s
  | .bad => .bad
@[simp] theorem Res.bind_ok {α β : Type} (a : α) (s : Sto) (f : α → MM β) : (Res.ok a s).bind f = f a s := rfl
@[simp] theorem Res.bind_exc {α β : Type} (e : D) (s : Sto) (f : α → MM β) : (Res.exc e s : Res α).bind f = .exc e s := rfl
@[simp] theorem Res.bind_bad {α β : Type} (f : α → MM β) : (Res.bad : Res α).bind f = .bad := rfl
/-- the names' values; lk: the first name is as it came -/
structure Sl where
  v : List (Option D)
  lk : Bool := false
/-- an expression's mirror; a test's; of an argument list -/
abbrev EE := Sl → MM D
abbrev ET := Sl → MM Bool
abbrev EA := Sl → MM (List D)
inductive SR where
  | nx (sl : Sl) (s : Sto) | rt (d : D) (s : Sto) | bk (sl : Sl) (s : Sto) | ct (sl : Sl) (s : Sto) | exc (e : D) (sl : Sl) (s : Sto) | bad
/-- a statement's mirror; the number: how many objects the store held at the def's entry -/
abbrev SS := Nat → Sl → Sto → SR
/-! ### worlds -/
structure Wd where
  F : Addr → Prop
  mu : List Addr
  ce : Addr → Option V
/-- a frame whose lambdas are values: its cells, its name, its lambdas -/
structure FrI where
  cells : List (Str × Addr)
  qual : Str
  sites : List (Arguments × Expr × Scope)
/-- what a def that got something to call knows: that, code objects, worlds that are seen -/
structure Gx where
  fr : Option FrI := none
  pin : Addr := 0
  co : List (Addr × Str) := []
  an : List (Wd × Hp) := []
structure Gc where
  K : PySem.W.Frag
  ga : Str → Addr
  fa : Str → Addr
  /-- defs with lambdas: their code, its table, the lambda's name -/
  cs : List (Addr × Addr × Str) := []
  x : Gx := {}
/-- a lambda -/
def LamHO (f c' : Addr) (q : Str) (ps : Arguments) (b : Expr) (sc : Scope) (clo : List (Str × Addr)) : HO := .ext fun h => ∃ pm ctv, h.get? f = some (PySem.W.kla_obj "<lambda>" q ps b sc clo pm c' ctv)
mutual
inductive Rep (G : Gc) (W : Wd) (H : Hp) : V → D → Prop where
  | non : Rep G W H .non .non
  | bl (b : Bool) : Rep G W H (.bl b) (.bl b)
  | int (i : Int) : Rep G W H (.int i) (.int i)
  | str (x : Str) : Rep G W H (.str x) (.str x)
  | ty (n : String) : Rep G W H (.ty n) (.ty n)
  | glo (x : Str) : Rep G W H (.ref (G.ga x)) (.glo x)
  | tup {a : Addr} {vs : List V} {ds : List D} : W.F a → H a = some (.tup vs) → RepL G W H vs ds → Rep G W H (.ref a) (.tup ds)
  | lst {a : Addr} {vs : List V} {ds : List D} : W.F a → H a = some (.lst vs) → RepL G W H vs ds → Rep G W H (.ref a) (.lst ds)
  | slst {a : Addr} {vs : List V} {ds : List D} : W.F a → Rd H a (.lst vs) → RepL G W H vs ds → Rep G W H (.ref a) (.slst ds)
  | dic {a : Addr} {vs : List (Key × V)} {ds : List (Key × D)} : W.F a → H a = some (.dK vs) → RepK G W H vs ds → Rep G W H (.ref a) (.dic ds)
  | ins {a dx : Addr} {c : Str} {fs : List (Str × V)} {gs : List (Str × D)} : W.F a → H a = some (.ins (G.ga c) dx fs) → RepF G W H fs gs → Rep G W H (.ref a) (.ins c gs)
  | exc {a d : Addr} {c : Str} {fs : List (Str × V)} {gs : List (Str × D)} : W.F a → W.F d → H a = some (exk a (.ref (G.ga c)) (some d)) → H d = some (.xd fs) → RepF G W H fs gs → Rep G W H (.ref a) (.exc c gs)
  | exc0 {a : Addr} {c : Str} : W.F a → H a = some (exk a (.ref (G.ga c)) none) → Rep G W H (.ref a) (.exc c [])
  | mref {a : Addr} {k : Nat} : W.mu[k]? = some a → Rep G W H (.ref a) (.mref k)
  | lam {f c' : Addr} {id : Nat} {fr : FrI} {si : Arguments × Expr × Scope} : G.x.fr = some fr → fr.sites[id]? = some si → W.F f → W.F c' → H f = some (LamHO f c' (fr.qual ++ "<lambda>") si.1 si.2.1 si.2.2 (cloFrom fr.cells si.2.2.names [])) → H c' = some (LamX.CodeO c' (fr.qual ++ "<lambda>")) → Rep G W H (.ref f) (.lam id [])
inductive RepL (G : Gc) (W : Wd) (H : Hp) : List V → List D → Prop where
  | nil : RepL G W H [] []
  | cons {v : V} {d : D} {vs : List V} {ds : List D} : Rep G W H v d → RepL G W H vs ds → RepL G W H (v :: vs) (d :: ds)
inductive RepF (G : Gc) (W : Wd) (H : Hp) : List (Str × V) → List (Str × D) → Prop where
  | nil : RepF G W H [] []
  | cons {f : Str} {v : V} {d : D} {vs : List (Str × V)} {ds : List (Str × D)} : Rep G W H v d → RepF G W H vs ds → RepF G W H ((f, v) :: vs) ((f, d) :: ds)
inductive RepK (G : Gc) (W : Wd) (H : Hp) : List (Key × V) → List (Key × D) → Prop where
  | nil : RepK G W H [] []
  | cons {f : Key} {v : V} {d : D} {vs : List (Key × V)} {ds : List (Key × D)} : Rep G W H v d → RepK G W H vs ds → RepK G W H ((f, v) :: vs) ((f, d) :: ds)
end
/-- the later world sees what the earlier one saw -/
structure Sees (W : Wd) (H : Hp) (W' : Wd) (H' : Hp) : Prop where
  f : ∀ a, W.F a → W'.F a
  hf : ∀ a, W.F a → H' a = H a
  mu : ∀ (k : Nat) (a : Addr), W.mu[k]? = some a → W'.mu[k]? = some a
theorem rd_of {H H' : Hp} {a : Addr} {u : HO} (r : Rd H a u) (e : H' a = H a) : Rd H' a u := by
  unfold Rd at *
  rw [e]
  exact r
section
variable {G : Gc} {W W' : Wd} {H H' : Hp}
mutual
theorem Rep.see (s : Sees W H W' H') : ∀ {v : V} {d : D}, Rep G W H v d → Rep G W' H' v d
  | _, _, .non => .non
  | _, _, .bl b => .bl b
  | _, _, .int i => .int i
  | _, _, .str x => .str x
  | _, _, .ty n => .ty n
  | _, _, .glo x => .glo x
  | _, _, .tup f h r => .tup (s.f _ f) ((s.hf _ f).trans h) (RepL.see s r)
  | _, _, .lst f h r => .lst (s.f _ f) ((s.hf _ f).trans h) (RepL.see s r)
  | _, _, .slst f h r => .slst (s.f _ f) (rd_of h (s.hf _ f)) (RepL.see s r)
  | _, _, .dic f h r => .dic (s.f _ f) ((s.hf _ f).trans h) (RepK.see s r)
  | _, _, .ins f h r => .ins (s.f _ f) ((s.hf _ f).trans h) (RepF.see s r)
  | _, _, .exc f g h k r => .exc (s.f _ f) (s.f _ g) ((s.hf _ f).trans h) ((s.hf _ g).trans k) (RepF.see s r)
  | _, _, .exc0 f h => .exc0 (s.f _ f) ((s.hf _ f).trans h)
  | _, _, .mref e => .mref (s.mu _ _ e)
  | _, _, .lam e1 e2 f g h k => .lam e1 e2 (s.f _ f) (s.f _ g) ((s.hf _ f).trans h) ((s.hf _ g).trans k)
theorem RepL.see (s : Sees W H W' H') : ∀ {v : List V} {d : List D}, RepL G W H v d → RepL G W' H' v d
  | _, _, .nil => .nil
  | _, _, .cons h r => .cons (Rep.see s h) (RepL.see s r)
theorem RepF.see (s : Sees W H W' H') : ∀ {v : List (Str × V)} {d : List (Str × D)}, RepF G W H v d → RepF G W' H' v d
  | _, _, .nil => .nil
  | _, _, .cons h r => .cons (Rep.see s h) (RepF.see s r)
theorem RepK.see (s : Sees W H W' H') : ∀ {v : List (Key × V)} {d : List (Key × D)}, RepK G W H v d → RepK G W' H' v d
  | _, _, .nil => .nil
  | _, _, .cons h r => .cons (Rep.see s h) (RepK.see s r)
end
theorem RepL.len {vs : List V} {ds : List D} : RepL G W H vs ds → vs.length = ds.length
  | .nil => rfl
  | .cons _ r => by simp [RepL.len r]
theorem RepL.get {vs : List V} {ds : List D} : RepL G W H vs ds → ∀ {i : Nat} {d : D}, ds[i]? = some d → ∃ v, vs[i]? = some v ∧ Rep G W H v d
  | .nil, i, d, e => by simp at e
  | .cons h r, 0, d, e => by simp at e; subst e; exact ⟨_, rfl, h⟩
  | .cons h r, i + 1, d, e => by
    obtain ⟨v, h1, h2⟩ := RepL.get r (i := i) (d := d) (by simpa using e)
    exact ⟨v, by simpa using h1, h2⟩
theorem RepL.app {vs vs' : List V} {ds ds' : List D} : RepL G W H vs ds → RepL G W H vs' ds' → RepL G W H (vs ++ vs') (ds ++ ds')
  | .nil, s => s
  | .cons h r, s => .cons h (RepL.app r s)
theorem RepL.of {vs : List V} {ds : List D} (hl : vs.length = ds.length) (h : ∀ (i : Nat) (v : V) (d : D), vs[i]? = some v → ds[i]? = some d → Rep G W H v d) : RepL G W H vs ds := by
  induction vs generalizing ds with
  | nil => cases ds with
    | nil => exact .nil
    | cons d ds => simp at hl
  | cons v vs ih => cases ds with
    | nil => simp at hl
    | cons d ds => exact .cons (h 0 v d rfl rfl) (ih (by simpa using hl) fun i v d e1 e2 => h (i + 1) v d (by simpa using e1) (by simpa using e2))
theorem RepF.get {vs : List (Str × V)} {ds : List (Str × D)} : RepF G W H vs ds → ∀ {f : Str} {d : D}, ds.lookup f = some d → ∃ v, vs.lookup f = some v ∧ Rep G W H v d
  | .nil, f, d, e => by simp at e
  | .cons (f := g) h r, f, d, e => by
    simp only [List.lookup_cons] at e ⊢
    by_cases q : (f == g) = true
    · rw [q] at e ⊢
      cases e
      exact ⟨_, rfl, h⟩
    · have q' : (f == g) = false := by simpa using q
      rw [q'] at e ⊢
      exact RepF.get r e
theorem RepF.no {vs : List (Str × V)} {ds : List (Str × D)} : RepF G W H vs ds → ∀ {f : Str}, ds.lookup f = none → vs.lookup f = none
  | .nil, f, e => rfl
  | .cons (f := g) h r, f, e => by
    simp only [List.lookup_cons] at e ⊢
    by_cases q : (f == g) = true
    · rw [q] at e
      cases e
    · have q' : (f == g) = false := by simpa using q
      rw [q'] at e ⊢
      exact RepF.no r e
theorem RepF.len {vs : List (Str × V)} {ds : List (Str × D)} : RepF G W H vs ds → vs.length = ds.length
  | .nil => rfl
  | .cons _ r => by simp [RepF.len r]
def putD (f : Str) (v : D) : List (Str × D) → List (Str × D)
  | [] => [(f, v)]
  | (g, x) :: r => if g = f then (g, v) :: r else (g, x) :: putD f v r
theorem RepF.put {vs : List (Str × V)} {ds : List (Str × D)} {f : Str} {v : V} {d : D} (hv : Rep G W H v d) : RepF G W H vs ds → RepF G W H (putF f v vs) (putD f d ds)
  | .nil => .cons hv .nil
  | .cons (f := g) h r => by
    unfold putF putD
    by_cases q : g = f
    · rw [if_pos q, if_pos q]
      exact .cons hv r
    · rw [if_neg q, if_neg q]
      exact .cons h (RepF.put hv r)
end
/-! ### the store is held -/
def RepO (G : Gc) (W : Wd) (H : Hp) (a : Addr) : MO → Prop
  | .lst xs => ¬ W.F a ∧ ∃ vs, H a = some (.lst vs) ∧ RepL G W H vs xs
  | .ins c gs => ¬ W.F a ∧ ∃ dx fs, H a = some (.ins (G.ga c) dx fs) ∧ RepF G W H fs gs
  | .frz d => W.F a ∧ Rep G W H (.ref a) d
/-- a cell that another frame owns: known and locked -/
def CellH (H : Hp) (c : Addr) (v : V) : Prop := ∃ (o : Obj) (u : Value), H c = some (.frz o (.own 0)) ∧ o.data = .cell (some u) ∧ RelV v u
/-- the tables of code objects -/
def Gc.tabs (G : Gc) : List (Addr × Str) := G.cs.map fun p => (p.2.1, p.2.2)
theorem Sees.refl {W : Wd} {H : Hp} : Sees W H W H := ⟨fun _ h => h, fun _ _ => rfl, fun _ _ h => h⟩
theorem Sees.trans {W W1 W2 : Wd} {H H1 H2 : Hp} (a : Sees W H W1 H1) (b : Sees W1 H1 W2 H2) : Sees W H W2 H2 := ⟨fun x h => b.f _ (a.f _ h), fun x h => (b.hf _ (a.f _ h)).trans (a.hf _ h), fun k x h => b.mu _ _ (a.mu _ _ h)⟩
/-- tables of code objects; what stands in them will not change -/
def TabsF (T : List (Addr × Str)) (W : Wd) (H : Hp) : Prop := ∀ p ∈ T, ∃ ps : Array Value, H p.1 = some (.tbl ps) ∧ TriplesOk ps.toList ∧ ∀ (pos : Pos) (cv : Value), codeAmong pos ps.toList = some cv → ∃ c, cv = .ref c ∧ H c = some (LamX.CodeO c p.2) ∧ W.F c
/-- tables, code objects, the worlds seen -/
structure Gok (G : Gc) (W : Wd) (H : Hp) : Prop where
  tb : TabsF G.tabs W H
  co : ∀ p ∈ G.x.co, H p.1 = some (LamX.CodeO p.1 p.2)
  an : ∀ p ∈ G.x.an, Sees p.1 p.2 W H
theorem Gok.next {G : Gc} {W W' : Wd} {H H' : Hp} (g : Gok G W H) (se : Sees W H W' H') (h : ∀ b o, H b = some o → (∃ ps, o = .tbl ps) ∨ (∃ p, o = .ext p) → H' b = some o) : Gok G W' H' := by
  refine ⟨fun p hp => ?_, fun p hp => h _ _ (g.co p hp) (.inr ⟨_, rfl⟩), fun p hp => (g.an p hp).trans se⟩
  obtain ⟨ps, e1, e2, e3⟩ := g.tb p hp
  refine ⟨ps, h _ _ e1 (.inl ⟨_, rfl⟩), e2, fun pos cv hc => ?_⟩
  obtain ⟨c, q1, q2, q3⟩ := e3 pos cv hc
  exact ⟨c, q1, h _ _ q2 (.inr ⟨_, rfl⟩), se.f _ q3⟩
theorem Gok.same {G : Gc} {W W' : Wd} {H : Hp} (g : Gok G W H) (se : Sees W H W' H) : Gok G W' H := g.next se fun _ _ h _ => h
theorem Gok.wri {G : Gc} {W W' : Wd} {H : Hp} {a : Addr} {o o' : HO} (g : Gok G W H) (e : H a = some o) (se : Sees W H W' (upd H a o')) (h1 : ∀ ps, o ≠ .tbl ps) (h2 : ∀ p, o ≠ .ext p) : Gok G W' (upd H a o') := g.next se fun b u hb hu => by
  rw [upd_ne]
  · exact hb
  · rintro rfl
    rw [e] at hb
    cases hb
    rcases hu with ⟨ps, z⟩ | ⟨p, z⟩
    · exact h1 _ z
    · exact h2 _ z
theorem Gok.new {G : Gc} {W W' : Wd} {H : Hp} {a : Addr} {o' : HO} (g : Gok G W H) (e : H a = none) (se : Sees W H W' (upd H a o')) : Gok G W' (upd H a o') := g.next se fun b u hb hu => by
  rw [upd_ne (ne_of_none hb e)]
  exact hb
structure WOk (G : Gc) (L : Addr → V → Prop) (W : Wd) (H : Hp) (st : Sto) : Prop where
  len : W.mu.length = st.length
  nd : W.mu.Nodup
  fh : ∀ a, W.F a → ∃ o, H a = some o ∧ ∀ ps, o ≠ .tbl ps
  at_ : ∀ (k : Nat) (a : Addr) (o : MO), W.mu[k]? = some a → st[k]? = some o → RepO G W H a o
  ce : ∀ c v, W.ce c = some v → L c v ∨ CellH H c v
  gk : Gok G W H
def LN : Addr → V → Prop := fun _ _ => False
/-- how a piece of code may change the world; n: objects of the store ahead of n are others' -/
structure Ext (n : Nat) (W : Wd) (H : Hp) (W' : Wd) (H' : Hp) : Prop where
  f : ∀ a, W.F a → W'.F a
  hf : ∀ a, W.F a → H' a = H a
  fn : ∀ a, W'.F a → W.F a ∨ H a = none ∨ a ∈ W.mu.drop n
  mu : ∃ l, W'.mu = W.mu ++ l ∧ ∀ a ∈ l, H a = none
  no : ∀ a, H' a = none → H a = none
  ce : ∀ c v, W.ce c = some v → W'.ce c = some v
  keep : ∀ a o, H a = some o → a ∉ W.mu → (∀ ps, o ≠ .tbl ps) → H' a = some o
abbrev ExtE (W : Wd) (H : Hp) (W' : Wd) (H' : Hp) : Prop := Ext W.mu.length W H W' H'
section
variable {G : Gc} {W W1 W2 W' : Wd} {H H1 H2 H' : Hp} {n n' : Nat}
theorem Ext.sees (e : Ext n W H W' H') : Sees W H W' H' := by
  refine ⟨e.f, e.hf, fun k a h => ?_⟩
  obtain ⟨l, q, _⟩ := e.mu
  rw [q]
  exact List.getElem?_append_left (List.getElem?_eq_some_iff.mp h).1 ▸ h
theorem Ext.refl : Ext n W H W H := ⟨fun _ h => h, fun _ _ => rfl, fun _ h => .inl h, ⟨[], by simp, by simp⟩, fun _ h => h, fun _ _ h => h, fun _ _ h _ _ => h⟩
theorem Ext.len (e : Ext n W H W' H') : W.mu.length ≤ W'.mu.length := by
  obtain ⟨l, q, _⟩ := e.mu
  rw [q]
  simp
theorem Ext.trans (a : Ext n W H W1 H1) (b : Ext n' W1 H1 W2 H2) (hn : n ≤ n') (hl : n ≤ W.mu.length) : Ext n W H W2 H2 := by
  obtain ⟨l1, q1, r1⟩ := a.mu
  obtain ⟨l2, q2, r2⟩ := b.mu
  refine ⟨fun x h => b.f _ (a.f _ h), fun x h => (b.hf _ (a.f _ h)).trans (a.hf _ h), fun x h => ?_, ⟨l1 ++ l2, by rw [q2, q1, List.append_assoc], fun x hx => ?_⟩, fun x h => a.no _ (b.no _ h), fun c v h => b.ce _ _ (a.ce _ _ h), fun x o h hm ht => ?_⟩
  · rcases b.fn _ h with h | h | h
    · exact a.fn _ h
    · exact .inr (.inl (a.no _ h))
    · have h' : x ∈ W1.mu.drop n := by
        have : W1.mu.drop n' = (W1.mu.drop n).drop (n' - n) := by rw [List.drop_drop]; congr 1; omega
        rw [this] at h
        exact List.mem_of_mem_drop h
      rw [q1, List.drop_append_of_le_length hl] at h'
      rcases List.mem_append.mp h' with h' | h'
      · exact .inr (.inr h')
      · exact .inr (.inl (r1 _ h'))
  · rcases List.mem_append.mp hx with h | h
    · exact r1 _ h
    · exact a.no _ (r2 _ h)
  · have h1 := a.keep _ _ h hm ht
    refine b.keep _ _ h1 ?_ ht
    rw [q1]
    intro hx
    rcases List.mem_append.mp hx with z | z
    · exact hm z
    · rw [r1 _ z] at h
      cases h
theorem Ext.mono (a : Ext n W H W' H') (h : n' ≤ n) : Ext n' W H W' H' := ⟨a.f, a.hf, fun x hx => by
  rcases a.fn x hx with z | z | z
  · exact .inl z
  · exact .inr (.inl z)
  · refine .inr (.inr ?_)
    have : W.mu.drop n = (W.mu.drop n').drop (n - n') := by rw [List.drop_drop]; congr 1; omega
    rw [this] at z
    exact List.mem_of_mem_drop z, a.mu, a.no, a.ce, a.keep⟩
theorem ExtE.trans (a : ExtE W H W1 H1) (b : ExtE W1 H1 W2 H2) : ExtE W H W2 H2 := Ext.trans a b a.len (Nat.le_refl _)
theorem Ext.thenE (a : Ext n W H W1 H1) (b : ExtE W1 H1 W2 H2) (hl : n ≤ W.mu.length) : Ext n W H W2 H2 := Ext.trans a b (Nat.le_trans hl a.len) hl
theorem RepO.see {a : Addr} {o : MO} (h : RepO G W H a o) (s : Sees W H W' H') (hn : W'.F a → W.F a) (e : H' a = H a) : RepO G W' H' a o := by
  cases o with
  | lst xs =>
    obtain ⟨h1, vs, h2, h3⟩ := h
    exact ⟨fun z => h1 (hn z), vs, e.trans h2, h3.see s⟩
  | ins c gs =>
    obtain ⟨h1, dx, fs, h2, h3⟩ := h
    exact ⟨fun z => h1 (hn z), dx, fs, e.trans h2, h3.see s⟩
  | frz d =>
    obtain ⟨h1, h2⟩ := h
    exact ⟨s.f _ h1, h2.see s⟩
end
/-! ### what is wanted behind an expression -/
def RepX (G : Gc) (W : Wd) (H : Hp) (cls : Value) (d : Option Addr) (e : D) : Prop := ∃ (c : Str) (gs : List (Str × D)), e = .exc c gs ∧ cls = .ref (G.ga c) ∧
  ((gs = [] ∧ d = none) ∨ ∃ (dd : Addr) (fs : List (Str × V)), d = some dd ∧ W.F dd ∧ H dd = some (.xd fs) ∧ RepF G W H fs gs)
/-- rel: how a value of the model tells a mirror's one -/
def post {α β : Type} (G : Gc) (L : Addr → V → Prop) (rel : Wd → Hp → β → α → Prop) (Wx : WX) (σ : L2.St) (W : Wd) (H : Hp) (Q : β → Hp → Prop) : Res α → Prop
  | .ok d st => ∀ v H' W', ExtE W H W' H' → WOk G L W' H' st → rel W' H' v d → Q v H'
  | .exc e st => ∀ cls dd H' W', ExtE W H W' H' → WOk G L W' H' st → RepX G W' H' cls dd e → Wx cls dd σ H'
  | .bad => False
def relT : Wd → Hp → Bool → Bool → Prop := fun _ _ a b => a = b
abbrev postE (G : Gc) (L : Addr → V → Prop) := post G L (Rep G)
abbrev postT (G : Gc) (L : Addr → V → Prop) := post G L relT
abbrev postA (G : Gc) (L : Addr → V → Prop) := post G L (RepL G)
/-- the frame's own cells: none is told -/
def LX (X : Cx) (lk : Bool) (σ : L2.St) (c : Addr) (v : V) : Prop := False
structure RepS (G : Gc) (W : Wd) (H : Hp) (σ : L2.St) (sl : Sl) : Prop where
  len : σ.length = sl.v.length
  at_ : ∀ (i : Nat) (d : D), sl.v[i]? = some (some d) → ∃ v, σ[i]? = some (some v) ∧ Rep G W H v d
  lk : sl.lk = true → σ[0]? = some (some (.ref G.x.pin))
def tG {α β : Type} (G : Gc) (X : Cx) (rel : Wd → Hp → β → α → Prop) (Wx : WX) (m : Sl → MM α) (σ : L2.St) (H : Hp) (Q : β → Hp → Prop) : Prop := ∃ W st sl, WOk G (LX X sl.lk σ) W H st ∧ RepS G W H σ sl ∧ post G (LX X sl.lk σ) rel Wx σ W H Q (m sl st)
section
variable {G : Gc} {W W' : Wd} {H H' : Hp} {L : Addr → V → Prop} {Wx : WX} {σ : L2.St} {X : Cx}
theorem RepS.see {sl : Sl} (h : RepS G W H σ sl) (s : Sees W H W' H') : RepS G W' H' σ sl := ⟨h.len, fun i d e => by
  obtain ⟨v, h1, h2⟩ := h.at_ i d e
  exact ⟨v, h1, h2.see s⟩, h.lk⟩
variable {α β γ δ : Type} {rel : Wd → Hp → β → α → Prop} {rel' : Wd → Hp → δ → γ → Prop}
theorem post.after {Q : β → Hp → Prop} {r : Res α} (h : post G L rel Wx σ W H Q r) (e : ExtE W H W' H') : post G L rel Wx σ W' H' Q r := by
  cases r with
  | ok d st => exact fun v H2 W2 e2 w r => h v H2 W2 (e.trans e2) w r
  | exc d st => exact fun c dd H2 W2 e2 w r => h c dd H2 W2 (e.trans e2) w r
  | bad => exact h
/-- one after another -/
theorem post.bind {Q : β → Hp → Prop} {r : Res γ} {f : γ → MM α} (h : post G L rel Wx σ W H Q (r.bind f)) :
    post G L rel' Wx σ W H (fun v H1 => ∃ W1 st1 d, ExtE W H W1 H1 ∧ WOk G L W1 H1 st1 ∧ rel' W1 H1 v d ∧ r = .ok d st1 ∧ post G L rel Wx σ W1 H1 Q (f d st1)) r := by
  cases r with
  | ok d st => exact fun v H1 W1 e w r => ⟨W1, st, d, e, w, r, rfl, post.after h e⟩
  | exc d st => exact h
  | bad => exact h
/-- the first of two parts is read; behind it the second -/
theorem one {Q : β → Hp → Prop} {m : Sl → MM γ} {f : γ → MM α} {sl : Sl} {st : Sto} (w : WOk G (LX X sl.lk σ) W H st) (rs : RepS G W H σ sl) (h : post G (LX X sl.lk σ) rel Wx σ W H Q ((m sl st).bind f)) :
    tG G X rel' Wx m σ H fun v H1 => ∃ W1 st1 d, ExtE W H W1 H1 ∧ WOk G (LX X sl.lk σ) W1 H1 st1 ∧ RepS G W1 H1 σ sl ∧ rel' W1 H1 v d ∧ m sl st = .ok d st1 ∧ post G (LX X sl.lk σ) rel Wx σ W1 H1 Q (f d st1) := by
  refine ⟨W, st, sl, w, rs, ?_⟩
  have h1 := post.bind (rel' := rel') h
  revert h1
  cases m sl st with
  | bad => exact id
  | exc e s => exact id
  | ok d s =>
    intro h1 v H1 W1 e1 w1 r1
    obtain ⟨W1', st1, d', e1', w1', r1', q, h2⟩ := h1 v H1 W1 e1 w1 r1
    exact ⟨W1', st1, d', e1', w1', rs.see e1'.sees, r1', q, h2⟩
/-- nothing new -/
theorem post.same {Q : β → Hp → Prop} {d : α} {st : Sto} {v : β} (h : post G L rel Wx σ W H Q (.ok d st)) (w : WOk G L W H st) (r : rel W H v d) : Q v H := h v H W Ext.refl w r
end
/-! ### the judgements -/
abbrev tE (G : Gc) (X : Cx) (Wx : WX) (m : EE) : TE := tG G X (Rep G) Wx m
abbrev tT (G : Gc) (X : Cx) (Wx : WX) (m : ET) : TT := tG G X relT Wx m
abbrev tA (G : Gc) (X : Cx) (Wx : WX) (m : EA) : TA := tG G X (RepL G) Wx m
abbrev EvE (G : Gc) (X : Cx) (Wx : WX) (e : Expr) (m : EE) : Prop := PE X e (tE G X Wx m)
abbrev EvT (G : Gc) (X : Cx) (Wx : WX) (e : Expr) (m : ET) : Prop := PT X e (tT G X Wx m)
abbrev EvW (G : Gc) (X : Cx) (Wx : WX) (e : Expr) (m : ET) : Prop := PW X e (tT G X Wx m)
abbrev EvA (G : Gc) (X : Cx) (Wx : WX) (es : List Expr) (m : EA) : Prop := PA X es (tA G X Wx m)
def postS (G : Gc) (X : Cx) (Wx : WX) (n : Nat) (W : Wd) (H : Hp) (Z : Ends) : SR → Prop
  | .nx sl st => ∀ σ H' W', Ext n W H W' H' → WOk G (LX X sl.lk σ) W' H' st → RepS G W' H' σ sl → Z.nx σ H'
  | .rt d st => ∀ v H' W', Ext n W H W' H' → WOk G LN W' H' st → Rep G W' H' v d → Z.rt v H'
  | .bk sl st => ∀ σ H' W', Ext n W H W' H' → WOk G (LX X sl.lk σ) W' H' st → RepS G W' H' σ sl → Z.bk σ H'
  | .ct sl st => ∀ σ H' W', Ext n W H W' H' → WOk G (LX X sl.lk σ) W' H' st → RepS G W' H' σ sl → Z.ct σ H'
  | .exc e sl st => ∀ cls dd σ H' W', Ext n W H W' H' → WOk G (LX X sl.lk σ) W' H' st → RepS G W' H' σ sl → RepX G W' H' cls dd e → Wx cls dd σ H'
  | .bad => False
def tS (G : Gc) (X : Cx) (Wx : WX) (m : SS) : TS := fun Z σ H => ∃ n W st sl, n ≤ W.mu.length ∧ WOk G (LX X sl.lk σ) W H st ∧ RepS G W H σ sl ∧ postS G X Wx n W H Z (m n sl st)
abbrev EvS (G : Gc) (X : Cx) (Wx : WX) (s : Stmt) (m : SS) : Prop := PS X s (tS G X Wx m)
abbrev EvSs (G : Gc) (X : Cx) (Wx : WX) (s : List Stmt) (m : SS) : Prop := PSs X s (tS G X Wx m)
end MP
set_option Elab.async false
set_option linter.all false
set_option maxRecDepth 100000
set_option maxHeartbeats 2000000
/-! Rules for instances with own methods for signs. -/
namespace SP
open PySem PySem.Spec PyProof.Rows L2
section
variable {X : Cx} {CX : CXT} {pins : List (Addr × Obj)} {σ : L2.St} {H : Hp} {s : Shared} {a C dx g : Addr} {fs : List (Str × V)} {n : Nat} {sp : Sp} {E : XK}
theorem ins_inst (I : Inv X pins σ H s) (h : H a = some (.ins C dx fs)) : ∃ od, PySem.W.InstAt s.heap a (PySem.W.instObj C dx) C (some od) := by
  obtain ⟨mA, J, _⟩ := ins_get I.hok h
  obtain ⟨od, J, _⟩ := J.look
  exact ⟨od, J⟩
/-- x op y by the def of x's class, y of any kind -/
def rCmpO (K : PySem.W.Frag) (C : Addr) (sp : Sp) (E : XK) : R2 := fun x y H Q => ∃ a dx fs t, x = .ref a ∧ H a = some (.ins C dx fs) ∧ TyX K H y t ∧ PySem.W.notFirst K C t = true ∧ sp [x, y] H Q E
theorem op_cmpO {op : CmpOp} (hop : ∀ a b, compareOp op a b = richCompare op a b) (hs : PySem.W.findIn X.K (.ref C) (cmpInfo op).2.1 = some (some (.ref g))) (hf : PySem.W.isFn X.K (.ref g) = true)
    (F : FnR X.prog X.w X.K X.mg X.base CX n g sp) (hr : Room n X.A) (hx : Passes CX X E) : OpR X (compareOp op) (rCmpO X.K C sp E) := by
  intro pins s σ H x y v u Q I rx ry h
  obtain ⟨a, dx, fs, t, rfl, ha, ty, hn, q⟩ := h
  cases (show v = Value.ref a from rx)
  obtain ⟨od, J⟩ := ins_inst I ha
  obtain ⟨P, kx, hp, _⟩ := kit_of I ry ty
  obtain ⟨m, hF⟩ := I.fr
  rw [hop]
  refine PySem.W.cmp_K (op := op) (tb := t) hr.units0 hF I.ok.mod.kin J (kx.ty _ _ I.kIn hp) hn hs hf ?_
  refine wpAny_mono (wpAny_call (run_fnR (us := [.ref a, u]) (vs := [.ref a, y]) F hr hx I (.cons rfl (.cons ry .nil)) q)) (fun w s' z => ?_) fun _ _ x => x
  obtain ⟨z', H', I', rz, qz⟩ := z
  exact SlX.cmpback rz ⟨z', H', I', rz, qz⟩
/-- x != y by the class's own == (no own !=) -/
def rNeO (K : PySem.W.Frag) (C : Addr) (sp : Sp) (E : XK) : R2 := fun x y H Q => ∃ a dx fs t, x = .ref a ∧ H a = some (.ins C dx fs) ∧ TyX K H y t ∧ PySem.W.notFirst K C t = true ∧ sp [x, y] H (fun v H' => ∃ b, v = .bl b ∧ Q (.bl (!b)) H') E
theorem bound_builtin {M : Model} {A : Around} {E : Value → Shared → Prop} {s : Shared} {K : PySem.W.Frag} {x C : Addr} {ox : Obj} {od : Option Obj} {name : Str} {id : String} {args : List Value} {Q : Option Value → Shared → Prop} (X : K.In s.heap) (I : PySem.W.InstAt s.heap x ox C od)
    (hs : PySem.W.findIn K (.ref C) name = some (some (.builtin id))) (hb : ∀ self, bindSpecial (.builtin id) self = pure (.builtin id, [self]))
    (h : wpAny M A (call (.builtin id) (.ref x :: args)) (fun v => Q (some v)) E s) : wpAny M A (callSpecialIfBound? (.ref x) name args) Q E s := by
  simp only [callSpecialIfBound?, bindSpecialIfBound?]
  refine wpAny_holding (wpAny_bind (wpAny_bind (wpAny_bind (I.type.here ((PySem.W.looks_findIn X hs).here ?_)))))
  refine wpAny_bind (wpAny_askSetting (wpAny_ite ?_))
  have fin : wpAny M A (call (.builtin id) ([.ref x] ++ args) >>= fun v => pure (some v)) Q E s := wpAny_bind (wpAny_mono h (fun v s' h' => wpAny_pure h') fun _ _ h' => h')
  split
  · exact wpAny_bind ((PySem.W.Looks.of_pure (hb _)).here (wpAny_pure (by exact fin)))
  · exact wpAny_tryCatch (wpAny_bind ((PySem.W.Looks.of_pure (hb _)).here (wpAny_pure (by exact fin))))
theorem slot_object_ne : Slot "object" "__ne__" "object.__ne__" :=
  .of (owner := "object") (n := "__ne__") (by rw [typeLookup_type, builtinLookup_eq_fast]; kernel_rfl) (by decide +kernel) (by decide +kernel) (by decide +kernel) (by first | exact .inl (by decide +kernel) | exact .inr (by decide +kernel)) (by rw [isSubtype_type]; kernel_rfl)
theorem op_neO (hne : PySem.W.findIn X.K (.ref C) "__ne__" = some (some (.builtin "object.__ne__"))) (hm : PySem.W.mroIn X.K C (.type "object") = some true) (hs : PySem.W.findIn X.K (.ref C) "__eq__" = some (some (.ref g))) (hf : PySem.W.isFn X.K (.ref g) = true)
    (F : FnR X.prog X.w X.K X.mg X.base CX n g sp) (hr : Room (n + 1) X.A) (hx : Passes CX X E) : OpR X (compareOp .NotEq) (rNeO X.K C sp E) := by
  intro pins s σ H x y v u Q I rx ry h
  obtain ⟨a, dx, fs, t, rfl, ha, ty, hn, q⟩ := h
  cases (show v = Value.ref a from rx)
  obtain ⟨od, J⟩ := ins_inst I ha
  obtain ⟨P, kx, hp, _⟩ := kit_of I ry ty
  have KX := I.kIn
  have hb := kx.ty (model X.prog X.w) _ I.kIn hp
  have hu0 : X.A.units < cLine := hr.units0
  have hu1 : X.A.in1.units < cLine := hr.in1.units0
  have one : wpAny (model X.prog X.w) X.A (tryCompare (.ref a) "__ne__" u) (fun r s' => ∃ v, r = some v ∧ EP X pins σ Q v s') X.xe s := by
    unfold tryCompare
    refine wpAny_bind (bound_builtin KX J hne slot_object_ne.bind ?_)
    refine wpAny_call (codeAny_call_builtin slot_object_ne.plain PySem.F.cmpEntry_ne (PySem.W.check_slot (i := "object.__ne__") (owner := "object") (n := "__ne__") (by decide +kernel) (by decide +kernel) (J.type.andThen (PySem.W.looks_mroIn KX hm)) (PySem.F.cmpArgs_ne _ _) ?_))
    unfold Builtin.«object.__ne__»
    refine wpAny_bind (m := slotArgs "__ne__" 1 _) (wpAny_pure ?_)
    refine wpAny_bind (m := cRoomFor _ _) (wpAny_cRoomFor hu1 ?_)
    refine wpAny_bind (m := callSpecialIfBound? (.ref a) (Str.ofString "__eq__") _) (PySem.W.ifBound_K KX J hs hf ?_)
    refine wpAny_mono (wpAny_call (SlX.run_at (us := [.ref a, u]) (ws := [.ref a, y]) F hr.in1 I.env0.in1 hx I (.cons rfl (.cons ry .nil)) q)) (fun w s' z => ?_) fun _ _ x => x
    obtain ⟨z', H', I', rz, b, rfl, qz⟩ := z
    cases (show w = Value.bool b from rz)
    refine wpAny_bind (m := truthy (.bool b)) (wpAny_truthy_bool ?_)
    refine wpAny_pure ?_
    exact wpAny_pure ⟨_, rfl, .bl (!b), H', I', rfl, qz⟩
  show wpAny (model X.prog X.w) X.A (richCompare .NotEq (.ref a) u) _ _ _
  unfold richCompare
  simp only [oneThing_ref]
  refine wpAny_holding (wpAny_bind (wpAny_cRoomFor hu0 ?_))
  refine wpAny_bind (J.type.here (wpAny_bind (hb.here ?_)))
  split
  · rename_i q
    have e : PySem.W.subIn X.K t (.ref C) = some false := by
      rcases Bool.or_eq_true_iff.mp hn with e | e
      · rw [beq_iff_eq.mp e] at q; simp at q
      · exact beq_iff_eq.mp e
    refine wpAny_bind ((PySem.W.looks_subIn KX e).here ?_)
    simp only [Bool.false_eq_true, if_false]
    refine wpAny_bind (wpAny_mono one (fun r s' z => ?_) fun _ _ e => e)
    obtain ⟨v, rfl, hq⟩ := z
    exact wpAny_pure hq
  · refine wpAny_bind (wpAny_pure ?_)
    simp only [Bool.false_eq_true, if_false]
    refine wpAny_bind (wpAny_mono one (fun r s' z => ?_) fun _ _ e => e)
    obtain ⟨v, rfl, hq⟩ := z
    exact wpAny_pure hq
end
end SP
set_option Elab.async false
set_option linter.all false
set_option maxRecDepth 100000
set_option maxHeartbeats 2000000
namespace SP
open PySem PySem.Spec PyProof.Rows L2
/-- C.m is a staticmethod: its record at p, its def at g -/
structure SMet (K : PySem.W.Frag) (C : Addr) (mc : Value) (m : Str) (p g : Addr) : Prop where
  at_ : PySem.W.findCls K (.ref C) mc m = some (.get (.builtin "staticmethod.__get__") (.ref p) .none (.ref C))
  rc : ∃ rest, PySem.W.recIn K p "staticmethod" = some (.ref g :: rest)
  kp : PySem.W.keepIn K (.ref g) = true
def tSMeth (C : Addr) (sp : Sp) (E : XK) (ta : TE) (t : TA) : TE := fun σ H Q => ta σ H fun x H1 => x = .ref C ∧ t σ H1 fun vs H2 => sp vs H2 Q E
section
variable {X : Cx} {CX : CXT} {pins : List (Addr × Obj)} {σ : L2.St} {H : Hp} {s : Shared} {a C dx g p : Addr} {fs : List (Str × V)} {n k : Nat} {sp : Sp} {E : XK} {mc : Value} {m : Str} {o e : Expr} {es : List Expr} {pos apos : Pos} {ta : TE} {t : TA} {pl : Sem Bool}
theorem pe_smeth (he : PE X o ta) (r : ClX.CRead X.K C mc) (c : SMet X.K C mc m p g) (F : FnR X.prog X.w X.K X.mg X.base CX k g sp) (hr : Room k X.A) (hx : Passes CX X E) (ha : PA X (e :: es) t)
    (hst : starEach (e :: es) X.env = (false, eval e X.env) :: starEach es X.env := by rfl) (hpl : (backTo pos (starEach es X.env)).any (·.1) = false := by rfl)
    (ht : eval (.Call (.Attribute o m apos) (e :: es) [] pos) X.env = (do
      let ov ← eval o X.env
      standAt apos.atName
      let (f, first) ← holding [ov] (getMethod ov m pl)
      callWith pos f first (backTo pos (starEach (e :: es) X.env)) (backToKw pos (keywordEach [] X.env))) := by rfl) :
    PE X (.Call (.Attribute o m apos) (e :: es) [] pos) (tSMeth C sp E ta t) := by
  refine ⟨fun pins s σ H Q I h => ?_⟩
  refine PySem.W.methodCall_KW (pl := pl) (thn (he.run pins s σ H _ I h) fun u s1 ⟨x, H1, I1, rx, ex, q⟩ => ?_) ht
  subst ex
  obtain rfl : u = Value.ref C := rx
  obtain ⟨rest, hp⟩ := c.rc
  refine PySem.W.method_cls I1.kIn r.ga (PySem.W.cls_bind I1.kIn r.rd c.at_ (wpAny_call (PySem.W.sm_get (s := { s1 with toks := s1.toks + 1 }) I1.kIn hp (PySem.W.handed_on rfl ?_))))
  have I2 : Inv X pins σ H1 { s1 with toks := s1.toks + 1 } := I1.tok _
  refine PySem.W.callWith_K (h₀ := X.base) I2.ok.mod.kin c.kp (thn (ha.run pos pins _ σ H1 _ I2 q) fun us s3 ⟨vs, H2, I3, rv, q2⟩ => ⟨I3.kIn, ?_⟩) hst hpl
  exact wpAny_call (run_fnR F hr hx I3 rv q2)
theorem pe_smeth0 (he : PE X o ta) (r : ClX.CRead X.K C mc) (c : SMet X.K C mc m p g) (F : FnR X.prog X.w X.K X.mg X.base CX k g sp) (hr : Room k X.A) (hx : Passes CX X E)
    (ht : eval (.Call (.Attribute o m apos) [] [] pos) X.env = (do
      let ov ← eval o X.env
      standAt apos.atName
      let (f, first) ← holding [ov] (getMethod ov m pl)
      callWith pos f first (backTo pos (starEach [] X.env)) (backToKw pos (keywordEach [] X.env))) := by rfl) :
    PE X (.Call (.Attribute o m apos) [] [] pos) (tSMeth C sp E ta tNil) := by
  refine ⟨fun pins s σ H Q I h => ?_⟩
  refine PySem.W.methodCall_KW (pl := pl) (thn (he.run pins s σ H _ I h) fun u s1 ⟨x, H1, I1, rx, ex, q⟩ => ?_) ht
  subst ex
  obtain rfl : u = Value.ref C := rx
  obtain ⟨rest, hp⟩ := c.rc
  refine PySem.W.method_cls I1.kIn r.ga (PySem.W.cls_bind I1.kIn r.rd c.at_ (wpAny_call (PySem.W.sm_get (s := { s1 with toks := s1.toks + 1 }) I1.kIn hp (PySem.W.handed_on rfl ?_))))
  have I2 : Inv X pins σ H1 { s1 with toks := s1.toks + 1 } := I1.tok _
  exact PySem.W.callWith_K0 I2.kIn c.kp (wpAny_call (run_fnR (us := []) F hr hx I2 .nil q))
/-- a one-place sign, abs, by the class's own def -/
def rUnO (C : Addr) (sp : Sp) (E : XK) : V → Hp → VK → Prop := fun x H Q => ∃ a dx fs, x = .ref a ∧ H a = some (.ins C dx fs) ∧ sp [x] H Q E
theorem un_negO (hs : PySem.W.findIn X.K (.ref C) "__neg__" = some (some (.ref g))) (hf : PySem.W.isFn X.K (.ref g) = true) (F : FnR X.prog X.w X.K X.mg X.base CX n g sp) (hr : Room n X.A) (hx : Passes CX X E) : UnR X (unaryOp .USub) (rUnO C sp E) := by
  intro pins s σ H x v Q I rx h
  obtain ⟨a, dx, fs, rfl, ha, q⟩ := h
  cases (show v = Value.ref a from rx)
  obtain ⟨od, J⟩ := ins_inst I ha
  unfold unaryOp
  refine wpAny_holding ?_
  rw [show ((UnaryOp.USub == UnaryOp.Not) = false) from rfl]
  simp only [Bool.false_eq_true, if_false]
  refine wpAny_bind (PySem.W.special_fn I.kIn J hs (beq_iff_eq.mp hf) (wpAny_mono (wpAny_call (run_fnR (us := [.ref a]) (vs := [.ref a]) F hr hx I (.cons rfl .nil) q)) (fun w s' z => ?_) fun _ _ x => x))
  exact wpAny_pure z
def rUnC (C : Addr) (sp : Sp) (E : XK) : List V → Hp → VK → Prop := fun xs H Q => ∃ a dx fs, xs = [.ref a] ∧ H a = some (.ins C dx fs) ∧ sp [.ref a] H Q E
theorem call_absO (hs : PySem.W.findIn X.K (.ref C) "__abs__" = some (some (.ref g))) (hf : PySem.W.isFn X.K (.ref g) = true) (F : FnR X.prog X.w X.K X.mg X.base CX n g sp) (hr : Room (n + 1) X.A) (hx : Passes CX X E) : CallR X (.builtin "abs") (rUnC C sp E) := by
  intro pins s σ H xs us Q I r h
  obtain ⟨a, dx, fs, rfl, ha, q⟩ := h
  obtain ⟨u, rfl, ru⟩ := r.one
  cases (show u = Value.ref a from ru)
  obtain ⟨od, J⟩ := ins_inst I ha
  refine PySem.Calls.call_function_entry kind_abs plain_abs entry_abs (args_abs _) ?_
  unfold Builtin.«abs»
  refine wpAny_bind (m := oneArg "abs" _) (wpAny_pure ?_)
  refine wpAny_bind (m := callSpecial? (.ref a) (Str.ofString "__abs__")) (PySem.W.special_fn I.kIn J hs (beq_iff_eq.mp hf) ?_)
  refine wpAny_mono (wpAny_call (SlX.run_at (us := [.ref a]) (ws := [.ref a]) F hr.in1 I.env0.in1 hx I (.cons rfl .nil) q)) (fun w s' z => ?_) fun _ _ x => x
  exact wpAny_pure ⟨_, rfl, z⟩
/-- str(x), f"{x}" by the class's own __str__ -/
def rStrO (C : Addr) (sp : Sp) (E : XK) : List V → Hp → VK → Prop := fun xs H Q => ∃ a dx fs, xs = [.ref a] ∧ H a = some (.ins C dx fs) ∧ sp [.ref a] H (fun v H' => ∃ z, v = .str z ∧ Q v H') E
theorem strback {P : Value → Shared → Prop} {z : Str} {v : Value} {s' : Shared} (r : RelV (.str z) v) (h : P v s') : PySem.W.StrBack P v s' := by
  obtain ⟨t, rfl⟩ := (show ∃ t, v = Value.str z t from r)
  exact h
theorem call_strO (hs : PySem.W.findIn X.K (.ref C) "__str__" = some (some (.ref g))) (hf : PySem.W.isFn X.K (.ref g) = true) (F : FnR X.prog X.w X.K X.mg X.base CX n g sp) (hr : Room (n + 2) X.A) (hx : Passes CX X E) : CallR X (.type "str") (rStrO C sp E) := by
  intro pins s σ H xs us Q I r h
  obtain ⟨a, dx, fs, rfl, ha, q⟩ := h
  obtain ⟨u, rfl, ru⟩ := r.one
  cases (show u = Value.ref a from ru)
  obtain ⟨od, J⟩ := ins_inst I ha
  have hr2 : Room n X.A.in1.in1 := (show Room (n + 1) X.A.in1 from Room.in1 hr).in1
  refine PySem.W.kso_call hr2.units0 I.kIn J hs hf (wpAny_mono (wpAny_call (SlX.run_at (us := [.ref a]) (ws := [.ref a]) F hr2 I.env0.in1.in1 hx I (.cons rfl .nil) q)) (fun w s' z => ?_) fun _ _ x => x)
  obtain ⟨z', H', I', rz, y, rfl, qz⟩ := z
  exact strback rz ⟨_, H', I', rz, qz⟩
/-- {x}, x an instance with an own __str__ -/
def tFmtO (C : Addr) (sp : Sp) (E : XK) (te : TE) : TE := fun σ H Q => te σ H fun x H1 => ∃ a dx fs, x = .ref a ∧ H1 a = some (.ins C dx fs) ∧ sp [.ref a] H1 (fun v H' => ∃ z, v = .str z ∧ Q v H') E
theorem pe_fmtO {e : Expr} {te : TE} {pos : Pos} (he : PE X e te) (hfm : PySem.W.findIn X.K (.ref C) "__format__" = some (some (.builtin "object.__format__"))) (hm : PySem.W.mroIn X.K C (.type "object") = some true)
    (hs : PySem.W.findIn X.K (.ref C) "__str__" = some (some (.ref g))) (hf : PySem.W.isFn X.K (.ref g) = true) (F : FnR X.prog X.w X.K X.mg X.base CX n g sp) (hr : Room (n + 1) X.A) (hx : Passes CX X E) :
    PE X (.FormattedValue e (-1) none pos) (tFmtO C sp E te) := by
  refine ⟨fun pins s σ H Q I h => ?_⟩
  refine wpAny_FormattedValue_plain (thn (he.run pins s σ H _ I h) fun v s1 hv => ?_)
  obtain ⟨x, H1, I1, r1, a, dx, fs, rfl, ha, q⟩ := hv
  cases (show v = Value.ref a from r1)
  obtain ⟨od, J⟩ := ins_inst I1 ha
  have I2 : Inv X pins σ H1 { s1 with toks := s1.toks + 1 } := I1.tok _
  refine PySem.W.kfo_fieldS hr.in1.units0 I1.kIn J hfm hm hs hf ?_
  refine wpAny_mono (wpAny_call (SlX.run_at (us := [.ref a]) (ws := [.ref a]) F hr.in1 I2.env0.in1 hx I2 (.cons rfl .nil) q)) (fun w s' z => ?_) fun _ _ x => x
  obtain ⟨z', H', I', rz, y, rfl, qz⟩ := z
  exact strback rz ⟨_, H', I', rz, qz⟩
end
end SP
set_option Elab.async false
set_option linter.all false
set_option maxRecDepth 100000
set_option maxHeartbeats 2000000
namespace SP
open PySem PySem.Spec PyProof.Rows L2
section
variable {prog : Program} {w : World} {A : Around} {E : Value → Shared → Prop} {s : Shared} {K : PySem.W.Frag} {x C f : Addr} {ox : Obj} {od : Option Obj}
theorem slotpy_K {M : Model} {h : Heap} {nm : String} {r : Option Value} (X : K.In h) (hs : PySem.W.findIn K (.ref C) (PySem.dunder nm) = some (some (.ref f))) (hr : PySem.W.findIn K (.ref C) (PySem.dunderR nm) = some r) (hro : ∀ id, r ≠ some (.builtin id)) :
    PySem.W.Looks M h (numberSlotInPython (.ref C) nm) true := by
  intro A Q E s k q
  unfold numberSlotInPython
  refine wpAny_bind (PySem.W.looks_findIn X hs A _ E s k ?_)
  refine wpAny_bind (wpAny_pure ?_)
  refine wpAny_bind (PySem.W.looks_findIn X hr A _ E s k ?_)
  have fin : ∀ b : Bool, wpAny M A (pure b) (fun r s' => wpAny M A (if (true || r) = true then pure true else do
      if !isSeqSlot (← typeLookup (.ref C) (PySem.dunder nm)) then return false
      (← mroOf (.ref C)).anyM fun
        | .type _ => pure false
        | c => do
          let f ← calledByName c (PySem.dunder nm) (← typeLookup c (PySem.dunder nm))
          let r ← calledByName c (PySem.dunderR nm) (← typeLookup c (PySem.dunderR nm))
          return f || r) Q E s') E s := fun b => wpAny_pure (by
    rw [Bool.true_or]
    exact wpAny_pure q)
  cases r with
  | none => exact wpAny_bind (fin false)
  | some v =>
    cases v with
    | builtin id => exact absurd rfl (hro id)
    | _ => exact wpAny_bind (fin true)
/-- x op b, b of a built-in type -/
theorem binop_left {T : String} {op : Operator} {b : Value} {fr : Bool} {y r : Option Value} {Q : Value → Shared → Prop} (X : K.In s.heap) (I : PySem.W.InstAt s.heap x ox C od) (hb : PySem.W.Looks (model prog w) s.heap (typeOf b) (.type T)) (hc : PySem.W.selfFirst K C = true)
    (hs : PySem.W.findIn K (.ref C) (PySem.dunder op.info.2) = some (some (.ref f))) (hf : PySem.W.isFn K (.ref f) = true) (hr : PySem.W.findIn K (.ref C) (PySem.dunderR op.info.2) = some r) (hro : ∀ id, r ≠ some (.builtin id))
    (hfill : fillsNumberSlot (.type T) op.info.2 = pure fr) (hsub : PySem.W.subIn K (.type T) (.ref C) = some false) (hlk : typeLookup (.type T) (PySem.dunderR op.info.2) = pure y)
    (h : wpAny (model prog w) A (call (.ref f) [.ref x, b]) (PySem.W.CmpBack Q) E s) : wpAny (model prog w) A (binaryOp op (.ref x) b) Q E s := by
  obtain ⟨cd, hcd, hm⟩ := PySem.W.any_some hc
  obtain ⟨rest, hm⟩ : ∃ rest, cd.mro = .ref C :: rest := by
    cases q : cd.mro with
    | nil => rw [q] at hm; cases hm
    | cons a r => rw [q] at hm; exact ⟨r, by rw [List.head?_cons] at hm; cases (beq_iff_eq.mp hm); rfl⟩
  have fin : wpAny (model prog w) A (tryMethod (.ref x) (PySem.dunder op.info.2) b) (fun r s' => ∃ v, r = some v ∧ Q v s') E s := by
    unfold tryMethod
    refine wpAny_bind (PySem.W.special_fn X I hs (beq_iff_eq.mp hf) (wpAny_mono h (fun v s' hv => ?_) fun _ _ e => e))
    cases v <;> first | exact hv.elim | exact wpAny_pure ⟨_, rfl, hv⟩
  unfold binaryOp
  refine wpAny_holding (wpAny_bind ?_)
  unfold binaryOp1
  refine wpAny_bind (I.type.here (wpAny_bind (hb.here (wpAny_bind ((PySem.W.fills_K X hcd hm hs).here ?_)))))
  rw [show (Value.ref C == Value.type T) = false from rfl]
  simp only [Bool.false_eq_true, if_false]
  refine wpAny_bind (wpAny_of_eq hfill ?_)
  cases fr with
  | false =>
    simp only [Bool.and_false, Bool.false_eq_true, if_false, Bool.true_and, Bool.false_and]
    refine wpAny_bind (wpAny_pure ?_)
    simp only [Bool.false_eq_true, if_false, if_true]
    refine wpAny_bind (wpAny_mono fin (fun r s' z => ?_) fun _ _ e => e)
    obtain ⟨v, rfl, hq⟩ := z
    exact wpAny_pure (wpAny_pure hq)
  | true =>
    simp only [Bool.and_self, if_true, Bool.true_and]
    refine wpAny_bind ((PySem.W.looks_subIn X hsub).here ?_)
    simp only [Bool.false_eq_true, if_false, Bool.not_false, Bool.and_self, if_true]
    refine wpAny_bind ((slotpy_K X hs hr hro).here ?_)
    simp only [if_true]
    refine wpAny_bind (wpAny_of_eq (show numberSlotInPython (.type T) op.info.2 = pure false from rfl) ?_)
    simp only [Bool.not_false, if_true]
    refine wpAny_bind (wpAny_of_eq hlk ?_)
    refine wpAny_bind (wpAny_mono fin (fun r s' z => ?_) fun _ _ e => e)
    obtain ⟨v, rfl, hq⟩ := z
    exact wpAny_pure (wpAny_pure hq)
end
end SP
set_option Elab.async false
set_option linter.all false
set_option maxRecDepth 100000
set_option maxHeartbeats 400000
namespace SP
open PySem PySem.Spec PyProof.Rows L2
section
variable {prog : Program} {w : World} {A : Around} {E : Value → Shared → Prop} {s : Shared} {K : PySem.W.Frag} {x C f : Addr} {ox : Obj} {od : Option Obj}
theorem asInt_ref {M : Model} {ox : Obj} {Q : Option Int → Shared → Prop} (h : s.heap.get? x = some ox) (hd : ∀ p, ox.data ≠ .prim p) (q : Q none s) : wpAny M A (asInt? (.ref x)) Q E s := by
  unfold asInt?
  refine wpAny_bind (wpAny_load h ?_)
  cases e : ox.data with
  | prim p => exact absurd e (hd p)
  | _ => exact wpAny_pure q
theorem intBin_ref {name : String} {g : Int → Int → Sem Fin} {rf : Bool} {i : Int} {t : Tok} {ox : Obj} {Q : Fin → Shared → Prop} (h : s.heap.get? x = some ox) (hd : ∀ p, ox.data ≠ .prim p) (hq : Q (.done (.ret .notImplemented)) s) :
    wpAny (model prog w) A (Builtin.Int.intBinary name g rf ⟨[.int i t, .ref x], []⟩) Q E s := by
  unfold Builtin.Int.intBinary
  refine wpAny_bind (m := slotArgs name 1 _) (wpAny_pure ?_)
  refine wpAny_bind (m := Builtin.Int.intOfSelf (.int i t)) (wpAny_pure ?_)
  refine wpAny_bind (m := asInt? _) (asInt_ref h hd ?_)
  refine wpAny_bind (wpAny_rule ?_)
  exact wpAny_pure hq
/-- i op x, i an int, x an instance with the reflected method -/
theorem binop_right {op : Operator} {i : Int} {t : Tok} {fl : Addr} {Q : Value → Shared → Prop} (X : K.In s.heap) (I : PySem.W.InstAt s.heap x ox C od) (hc : PySem.W.selfFirst K C = true)
    (hs : PySem.W.findIn K (.ref C) (PySem.dunder op.info.2) = some (some (.ref fl))) (hr : PySem.W.findIn K (.ref C) (PySem.dunderR op.info.2) = some (some (.ref f))) (hf : PySem.W.isFn K (.ref f) = true)
    (hfill : fillsNumberSlot (.type "int") op.info.2 = pure true) (hsub : PySem.W.subIn K (.ref C) (.type "int") = some false)
    (hl : ∀ {Q : Option Value → Shared → Prop}, Q none s → wpAny (model prog w) A (tryMethod (.int i t) (PySem.dunder op.info.2) (.ref x)) Q E s)
    (h : wpAny (model prog w) A (call (.ref f) [.ref x, .int i t]) (PySem.W.CmpBack Q) E s) : wpAny (model prog w) A (binaryOp op (.int i t) (.ref x)) Q E s := by
  obtain ⟨cd, hcd, hm⟩ := PySem.W.any_some hc
  obtain ⟨rest, hm⟩ : ∃ rest, cd.mro = .ref C :: rest := by
    cases q : cd.mro with
    | nil => rw [q] at hm; cases hm
    | cons a r => rw [q] at hm; exact ⟨r, by rw [List.head?_cons] at hm; cases (beq_iff_eq.mp hm); rfl⟩
  have fin : wpAny (model prog w) A (tryMethod (.ref x) (PySem.dunderR op.info.2) (.int i t)) (fun r s' => ∃ v, r = some v ∧ Q v s') E s := by
    unfold tryMethod
    refine wpAny_bind (PySem.W.special_fn X I hr (beq_iff_eq.mp hf) (wpAny_mono h (fun v s' hv => ?_) fun _ _ e => e))
    cases v <;> first | exact hv.elim | exact wpAny_pure ⟨_, rfl, hv⟩
  unfold binaryOp
  refine wpAny_holding (wpAny_bind ?_)
  unfold binaryOp1
  refine wpAny_bind (wpAny_of_eq (show typeOf (.int i t) = pure (.type "int") from rfl) (wpAny_bind (I.type.here (wpAny_bind (wpAny_of_eq hfill ?_)))))
  rw [show (Value.type "int" == Value.ref C) = false from rfl]
  simp only [Bool.false_eq_true, if_false]
  refine wpAny_bind ((PySem.W.fills_K X hcd hm hs).here ?_)
  simp only [Bool.and_self, if_true, Bool.true_and]
  refine wpAny_bind ((PySem.W.looks_subIn X hsub).here ?_)
  simp only [Bool.false_eq_true, if_false, Bool.not_false, Bool.and_self, if_true]
  refine wpAny_bind (wpAny_of_eq (show numberSlotInPython (.type "int") op.info.2 = pure false from rfl) ?_)
  simp only [Bool.false_eq_true, if_false]
  refine wpAny_bind (hl ?_)
  dsimp only
  refine wpAny_bind (wpAny_mono fin (fun r s' z => ?_) fun _ _ e => e)
  obtain ⟨v, rfl, hq⟩ := z
  refine wpAny_bind (wpAny_rule ?_)
  exact wpAny_pure (wpAny_pure hq)
end
/-! ### as rules of the layer -/
/-- x op y: x an instance of C; y an instance of C, or a value of a built-in type -/
def rBinO (C : Addr) (sp : Sp) (E : XK) : R2 := fun x y H Q => ∃ a dx fs b dy gs, x = .ref a ∧ y = .ref b ∧ H a = some (.ins C dx fs) ∧ H b = some (.ins C dy gs) ∧ sp [x, y] H Q E
def rBinL (K : PySem.W.Frag) (C : Addr) (nm : String) (sp : Sp) (E : XK) : R2 := fun x y H Q => ∃ a dx fs T fr z, x = .ref a ∧ H a = some (.ins C dx fs) ∧ TyX K H y (.type T) ∧ fillsNumberSlot (.type T) nm = pure fr ∧ PySem.W.subIn K (.type T) (.ref C) = some false ∧ typeLookup (.type T) (PySem.dunderR nm) = pure z ∧ sp [x, y] H Q E
def rBinR (C : Addr) (sp : Sp) (E : XK) : R2 := fun x y H Q => ∃ i b dy gs, x = .int i ∧ y = .ref b ∧ H b = some (.ins C dy gs) ∧ sp [y, x] H Q E
section
variable {X : Cx} {CX : CXT} {pins : List (Addr × Obj)} {σ : L2.St} {H : Hp} {s : Shared} {a C dx g fl : Addr} {fs : List (Str × V)} {n : Nat} {sp : Sp} {E : XK} {op : Operator} {r : Option Value}
theorem op_binO (hc : PySem.W.selfFirst X.K C = true) (hs : PySem.W.findIn X.K (.ref C) (PySem.dunder op.info.2) = some (some (.ref g))) (hf : PySem.W.isFn X.K (.ref g) = true)
    (F : FnR X.prog X.w X.K X.mg X.base CX n g sp) (hr : Room n X.A) (hx : Passes CX X E) : OpR X (binaryOp op) (rBinO C sp E) := by
  intro pins s σ H x y v u Q I rx ry h
  obtain ⟨a, dx, fs, b, dy, gs, rfl, rfl, ha, hb, q⟩ := h
  cases (show v = Value.ref a from rx)
  cases (show u = Value.ref b from ry)
  obtain ⟨od, J⟩ := ins_inst I ha
  obtain ⟨od', J'⟩ := ins_inst I hb
  obtain ⟨m, hF⟩ := I.fr
  refine PySem.W.binop_K hF I.ok.mod.kin J J'.type hc hs hf ?_
  refine wpAny_mono (wpAny_call (run_fnR (us := [.ref a, .ref b]) (vs := [.ref a, .ref b]) F hr hx I (.cons rfl (.cons rfl .nil)) q)) (fun w s' z => ?_) fun _ _ x => x
  obtain ⟨z', H', I', rz, qz⟩ := z
  exact SlX.cmpback rz ⟨z', H', I', rz, qz⟩
theorem op_binL (hc : PySem.W.selfFirst X.K C = true) (hs : PySem.W.findIn X.K (.ref C) (PySem.dunder op.info.2) = some (some (.ref g))) (hf : PySem.W.isFn X.K (.ref g) = true) (hr' : PySem.W.findIn X.K (.ref C) (PySem.dunderR op.info.2) = some r) (hro : ∀ id, r ≠ some (.builtin id))
    (F : FnR X.prog X.w X.K X.mg X.base CX n g sp) (hr : Room n X.A) (hx : Passes CX X E) : OpR X (binaryOp op) (rBinL X.K C op.info.2 sp E) := by
  intro pins s σ H x y v u Q I rx ry h
  obtain ⟨a, dx, fs, T, fr, z, rfl, ha, ty, h1, h2, h3, q⟩ := h
  cases (show v = Value.ref a from rx)
  obtain ⟨od, J⟩ := ins_inst I ha
  obtain ⟨P, kx, hp, _⟩ := kit_of I ry ty
  refine binop_left I.kIn J (kx.ty _ _ I.kIn hp) hc hs hf hr' hro h1 h2 h3 ?_
  refine wpAny_mono (wpAny_call (run_fnR (us := [.ref a, u]) (vs := [.ref a, y]) F hr hx I (.cons rfl (.cons ry .nil)) q)) (fun w s' z => ?_) fun _ _ x => x
  obtain ⟨z', H', I', rz, qz⟩ := z
  exact SlX.cmpback rz ⟨z', H', I', rz, qz⟩
/-- that int's own method says NotImplemented of an instance -/
def IntNot (op : Operator) : Prop := ∀ (prog : Program) (w : World) (A : Around) (E : Value → Shared → Prop) (s : Shared) (x : Addr) (ox : Obj) (i : Int) (t : Tok) (Q : Option Value → Shared → Prop), s.heap.get? x = some ox → (∀ p, ox.data ≠ .prim p) → Q none s →
  wpAny (model prog w) A (tryMethod (.int i t) (PySem.dunder op.info.2) (.ref x)) Q E s
theorem intNot_add : IntNot .Add := by
  intro prog w A E s x ox i t Q h hd q
  show wpAny (model prog w) A (tryMethod (.int i t) (PySem.dunder "add") (.ref x)) Q E s
  unfold tryMethod
  refine wpAny_bind ?_
  with_reducible refine wpAny_callSpecial?_slot (typeIs_int s i t) PySem.F.slot_int_add ?_
  with_reducible refine wpAny_call_entry PySem.F.slot_int_add (typeIs_int s i t) PySem.F.entry_int_add ?_ (PySem.F.args_int_add_2 _ _)
  unfold Builtin.«int.__add__»
  exact intBin_ref h hd ⟨_, rfl, wpAny_pure q⟩
theorem intNot_sub : IntNot .Sub := by
  intro prog w A E s x ox i t Q h hd q
  show wpAny (model prog w) A (tryMethod (.int i t) (PySem.dunder "sub") (.ref x)) Q E s
  unfold tryMethod
  refine wpAny_bind ?_
  with_reducible refine wpAny_callSpecial?_slot (typeIs_int s i t) PySem.F.slot_int_sub ?_
  with_reducible refine wpAny_call_entry PySem.F.slot_int_sub (typeIs_int s i t) PySem.F.entry_int_sub ?_ (PySem.F.args_int_sub_2 _ _)
  unfold Builtin.«int.__sub__»
  exact intBin_ref h hd ⟨_, rfl, wpAny_pure q⟩
theorem intNot_mul : IntNot .Mult := by
  intro prog w A E s x ox i t Q h hd q
  show wpAny (model prog w) A (tryMethod (.int i t) (PySem.dunder "mul") (.ref x)) Q E s
  unfold tryMethod
  refine wpAny_bind ?_
  with_reducible refine wpAny_callSpecial?_slot (typeIs_int s i t) PySem.F.slot_int_mul ?_
  with_reducible refine wpAny_call_entry PySem.F.slot_int_mul (typeIs_int s i t) PySem.F.entry_int_mul ?_ (PySem.F.args_int_mul_2 _ _)
  unfold Builtin.«int.__mul__»
  exact intBin_ref h hd ⟨_, rfl, wpAny_pure q⟩
theorem intNot_mod : IntNot .Mod := by
  intro prog w A E s x ox i t Q h hd q
  show wpAny (model prog w) A (tryMethod (.int i t) (PySem.dunder "mod") (.ref x)) Q E s
  unfold tryMethod
  refine wpAny_bind ?_
  with_reducible refine wpAny_callSpecial?_slot (typeIs_int s i t) PySem.F.slot_int_mod ?_
  with_reducible refine wpAny_call_entry PySem.F.slot_int_mod (typeIs_int s i t) PySem.F.entry_int_mod ?_ (PySem.F.args_int_mod_2 _ _)
  unfold Builtin.«int.__mod__»
  exact intBin_ref h hd ⟨_, rfl, wpAny_pure q⟩
theorem op_binR (hi : IntNot op) (hfill : fillsNumberSlot (.type "int") op.info.2 = pure true) (hsub : PySem.W.subIn X.K (.ref C) (.type "int") = some false) (hc : PySem.W.selfFirst X.K C = true) (hs : PySem.W.findIn X.K (.ref C) (PySem.dunder op.info.2) = some (some (.ref fl)))
    (hr' : PySem.W.findIn X.K (.ref C) (PySem.dunderR op.info.2) = some (some (.ref g))) (hf : PySem.W.isFn X.K (.ref g) = true)
    (F : FnR X.prog X.w X.K X.mg X.base CX n g sp) (hr : Room n X.A) (hx : Passes CX X E) : OpR X (binaryOp op) (rBinR C sp E) := by
  intro pins s σ H x y v u Q I rx ry h
  obtain ⟨i, b, dy, gs, rfl, rfl, hb, q⟩ := h
  obtain ⟨t, rfl⟩ := (show ∃ t, v = Value.int i t from rx)
  cases (show u = Value.ref b from ry)
  obtain ⟨od, J⟩ := ins_inst I hb
  refine binop_right I.kIn J hc hs hr' hf hfill hsub (fun q => hi _ _ _ _ _ _ _ _ _ _ J.at_ (fun p e => by cases e) q) ?_
  refine wpAny_mono (wpAny_call (run_fnR (us := [.ref b, .int i t]) (vs := [.ref b, .int i]) F hr hx I (.cons rfl (.cons ⟨t, rfl⟩ .nil)) q)) (fun w s' z => ?_) fun _ _ x => x
  obtain ⟨z', H', I', rz, qz⟩ := z
  exact SlX.cmpback rz ⟨z', H', I', rz, qz⟩
end
end SP
set_option Elab.async false
set_option linter.all false
set_option maxRecDepth 100000
set_option maxHeartbeats 1000000
namespace MP
open PySem PySem.Spec PyProof.Rows L2 SP
/-- the cells of this frame need no care (no closure lives) -/
def Lok (L : Addr → V → Prop) : Prop := ∀ c v, ¬ L c v
theorem lok_false {X : Cx} {b : Bool} {σ : L2.St} : Lok (LX X b σ) := fun _ _ h => h
theorem WOk.lw {G : Gc} {L L' : Addr → V → Prop} {W : Wd} {H : Hp} {st : Sto} (w : WOk G L W H st) (h : ∀ c v, L c v → L' c v) : WOk G L' W H st := ⟨w.len, w.nd, w.fh, w.at_, fun c v e => (w.ce c v e).imp (h c v) id, w.gk⟩
theorem WOk.ln {G : Gc} {L : Addr → V → Prop} {W : Wd} {H : Hp} {st : Sto} (w : WOk G L W H st) (h : Lok L) : WOk G LN W H st := w.lw fun c v z => h c v z
theorem WOk.nl {G : Gc} {L : Addr → V → Prop} {W : Wd} {H : Hp} {st : Sto} (w : WOk G LN W H st) : WOk G L W H st := w.lw fun c v z => z.elim
/-! ### what a def promises -/
def postF (G : Gc) (W : Wd) (H : Hp) (Q : VK) (E : XK) : Res D → Prop
  | .ok d st => ∀ v H' W', ExtE W H W' H' → WOk G LN W' H' st → Rep G W' H' v d → Q v H'
  | .exc e st => ∀ cls dd H' W', ExtE W H W' H' → WOk G LN W' H' st → RepX G W' H' cls dd e → E cls dd H'
  | .bad => False
def spM (G : Gc) (m : List D → MM D) : Sp := fun vs H Q E => ∃ W st ds, WOk G LN W H st ∧ RepL G W H vs ds ∧ postF G W H Q E (m ds st)
/-- the def at f keeps to its mirror wherever nothing is being shown (repr's guards are empty) -/
def FS (P : Program) (w : World) (G : Gc) (mg : Str → Option Value) (base : Heap) (k : Nat) (f : Addr) (m : List D → MM D) : Prop :=
  ∀ (A : Around) (fr : List Env) (s : Shared) (H : Hp) (us : List Value) (vs : List V) (Q : VK) (E : XK), Room k A → A.guards = some [] → Env0 P w G.K mg base A fr s H →
    Vals vs us → spM G m vs H Q E → codeAny (model P w) A (.call (.ref f) ⟨us, []⟩) (CR (L2.CX P w) fr P w H s Q E) s
/-- .. called with n values by position and the keywords ks -/
def FK (P : Program) (w : World) (G : Gc) (mg : Str → Option Value) (base : Heap) (k : Nat) (f : Addr) (n : Nat) (ks : List Str) (m : List D → List D → MM D) : Prop :=
  ∀ (A : Around) (fr : List Env) (s : Shared) (H : Hp) (us ws : List Value) (vs zs : List V) (Q : VK) (E : XK), Room k A → A.guards = some [] → Env0 P w G.K mg base A fr s H →
    Vals vs us → Vals zs ws → us.length = n → ws.length = ks.length → (∃ W st ds es, WOk G LN W H st ∧ RepL G W H vs ds ∧ RepL G W H zs es ∧ postF G W H Q E (m ds es st)) →
    codeAny (model P w) A (.call (.ref f) ⟨us, ks.zip ws⟩) (CR (L2.CX P w) fr P w H s Q E) s
/-- where code runs: exceptions are taken as Wx wants, k levels of room, nothing is handled -/
structure Ct (X : Cx) (Wx : WX) (k : Nat) : Prop where
  tk : Takes X Wx
  rm : Room k X.A
  gd : X.A.guards = some []
  calm : X.calm = true
  po : PassesOwn (model X.prog X.w) X.A X.env X.xe
section
variable {G : Gc} {X : Cx} {Wx : WX} {pins : List (Addr × Obj)} {σ : L2.St} {H : Hp} {s : Shared} {L : Addr → V → Prop} {W : Wd} {st : Sto} {Q : VK} {k : Nat} {f : Addr} {m : List D → MM D} {us : List Value} {vs : List V} {ds : List D}
theorem post_F (hL : Lok L) {r : Res D} (h : postE G L Wx σ W H Q r) : postF G W H Q (fun cls dd H' => Wx cls dd σ H') r := by
  cases r with
  | ok d st => exact fun v H' W' e w r => h v H' W' e w.nl r
  | exc d st => exact fun c dd H' W' e w r => h c dd H' W' e w.nl r
  | bad => exact h
theorem runS {A : Around} (F : FS X.prog X.w G X.mg X.base k f m) (hK : X.K = G.K) (hr : Room k A) (hgd : A.guards = some []) (e0 : Env0 X.prog X.w X.K X.mg X.base A X.stack s H) (tk : Takes X Wx) (I : Inv X pins σ H s) (r : Vals vs us) (hL : Lok L) (w : WOk G L W H st) (rl : RepL G W H vs ds)
    (h : postE G L Wx σ W H Q (m ds st)) : codeAny (model X.prog X.w) A (.call (.ref f) ⟨us, []⟩) (fun r s' => match r with | .ok (.ret v) => EP X pins σ Q v s' | .ok _ => False | .error e => X.xe e s') s := by
  rw [hK] at e0
  refine codeAny_mono (F A X.stack s H us vs Q (fun cls dd H' => Wx cls dd σ H') hr hgd e0 r ⟨W, st, ds, w.ln hL, rl, post_F hL h⟩) fun r s' hq => ?_
  cases r with
  | error e => exact tk _ _ (XE.of_call I (fun _ _ _ z => z) hq)
  | ok fl =>
    cases fl with
    | ret u => exact I.after hq
    | next => exact False.elim hq
    | brk => exact False.elim hq
    | cont => exact False.elim hq
theorem runK {A : Around} {n : Nat} {ks : List Str} {ws : List Value} {zs : List V} {es : List D} {m : List D → List D → MM D} (F : FK X.prog X.w G X.mg X.base k f n ks m) (hK : X.K = G.K) (hr : Room k A) (hgd : A.guards = some []) (e0 : Env0 X.prog X.w X.K X.mg X.base A X.stack s H) (tk : Takes X Wx) (I : Inv X pins σ H s) (r : Vals vs us) (rz : Vals zs ws) (l1 : us.length = n) (l2 : ws.length = ks.length) (hL : Lok L) (w : WOk G L W H st) (rl : RepL G W H vs ds) (rlz : RepL G W H zs es)
    (h : postE G L Wx σ W H Q (m ds es st)) : codeAny (model X.prog X.w) A (.call (.ref f) ⟨us, ks.zip ws⟩) (fun r s' => match r with | .ok (.ret v) => EP X pins σ Q v s' | .ok _ => False | .error e => X.xe e s') s := by
  rw [hK] at e0
  refine codeAny_mono (F A X.stack s H us ws vs zs Q (fun cls dd H' => Wx cls dd σ H') hr hgd e0 r rz l1 l2 ⟨W, st, ds, es, w.ln hL, rl, rlz, post_F hL h⟩) fun r s' hq => ?_
  cases r with
  | error e => exact tk _ _ (XE.of_call I (fun _ _ _ z => z) hq)
  | ok fl =>
    cases fl with
    | ret u => exact I.after hq
    | next => exact False.elim hq
    | brk => exact False.elim hq
    | cont => exact False.elim hq
end
/-! ### readings are weakened -/
theorem PE.imp {X : Cx} {e : Expr} {t t' : TE} (h : PE X e t) (k : ∀ σ H Q, t' σ H Q → t σ H Q) : PE X e t' := ⟨fun pins s σ H Q I q => h.run pins s σ H Q I (k σ H Q q)⟩
theorem PT.imp {X : Cx} {e : Expr} {t t' : TT} (h : PT X e t) (k : ∀ σ H Q, t' σ H Q → t σ H Q) : PT X e t' := ⟨fun pins s σ H Q I q => h.run pins s σ H Q I (k σ H Q q)⟩
theorem PW.imp {X : Cx} {e : Expr} {t t' : TT} (h : PW X e t) (k : ∀ σ H Q, t' σ H Q → t σ H Q) : PW X e t' := ⟨fun wh pins s σ H Q I q => h.run wh pins s σ H Q I (k σ H Q q)⟩
theorem PA.imp {X : Cx} {e : List Expr} {t t' : TA} (h : PA X e t) (k : ∀ σ H Q, t' σ H Q → t σ H Q) : PA X e t' := ⟨fun pos pins s σ H Q I q => h.run pos pins s σ H Q I (k σ H Q q)⟩
theorem PS.imp {X : Cx} {e : Stmt} {t t' : TS} (h : PS X e t) (k : ∀ Z σ H, t' Z σ H → t Z σ H) : PS X e t' := ⟨fun pins s σ H Z I q => h.run pins s σ H Z I (k Z σ H q)⟩
theorem PSs.imp {X : Cx} {e : List Stmt} {t t' : TS} (h : PSs X e t) (k : ∀ Z σ H, t' Z σ H → t Z σ H) : PSs X e t' := ⟨fun pins s σ H Z I q => h.run pins s σ H Z I (k Z σ H q)⟩
/-- readings of parts are weakened -/
theorem post.imp {α β : Type} {G : Gc} {L : Addr → V → Prop} {rel : Wd → Hp → β → α → Prop} {Wx : WX} {σ : L2.St} {W : Wd} {H : Hp} {Q Q' : β → Hp → Prop} {r : Res α} (h : post G L rel Wx σ W H Q r) (k : ∀ v H', Q v H' → Q' v H') : post G L rel Wx σ W H Q' r := by
  cases r with
  | ok d st => exact fun v H' W' e w r => k _ _ (h v H' W' e w r)
  | exc d st => exact h
  | bad => exact h
theorem tG_imp {α β : Type} {G : Gc} {X : Cx} {rel : Wd → Hp → β → α → Prop} {Wx : WX} {m : Sl → MM α} {σ : L2.St} {H : Hp} {Q Q' : β → Hp → Prop} (h : tG G X rel Wx m σ H Q) (k : ∀ v H', Q v H' → Q' v H') : tG G X rel Wx m σ H Q' := by
  obtain ⟨W, st, sl, w, rs, h⟩ := h
  exact ⟨W, st, sl, w, rs, h.imp k⟩
/-! ### names, constants -/
def eVar (i : Nat) : EE := fun sl st => match sl.v[i]? with
  | some (some d) => .ok d st
  | _ => .bad
def eC (d : D) : EE := fun _ st => .ok d st
section
variable {G : Gc} {X : Cx} {Wx : WX} {pos : Pos}
theorem ev_var {i : Nat} {x : Str} (hN : X.N[i]? = some x) (hv : Vis X.env.scope x) (hd : (x == ("__debug__" : Str)) = false := by decide) (hcd : (x == ("__classdict__" : Str)) = false := by decide) : EvE G X Wx (.Name x pos) (eVar i) := by
  refine PE.imp (pe_var hN hv hd hcd) fun σ H Q ⟨W, st, sl, w, rs, h⟩ => ?_
  unfold eVar at h
  split at h
  · rename_i d e
    obtain ⟨v, h1, h2⟩ := rs.at_ i d e
    exact ⟨v, h1, h.same w h2⟩
  · exact False.elim h
theorem ev_c {e : Expr} {v : V} {d : D} (h : PE X e (tC v)) (r : ∀ W H, Rep G W H v d) : EvE G X Wx e (eC d) :=
  PE.imp h fun σ H Q ⟨W, st, sl, w, rs, q⟩ => post.same (v := v) q w (r W H)
theorem ev_int {i j} : EvE G X Wx (.Constant (.int i) j pos) (eC (.int i)) := ev_c pe_int fun _ _ => .int i
theorem ev_bl {i j} : EvE G X Wx (.Constant (.bool i) j pos) (eC (.bl i)) := ev_c pe_bl fun _ _ => .bl i
theorem ev_non {j} : EvE G X Wx (.Constant .none j pos) (eC .non) := ev_c pe_non fun _ _ => .non
theorem ev_str {i j} : EvE G X Wx (.Constant (.str i) j pos) (eC (.str i)) := ev_c pe_str fun _ _ => .str i
/-- a class or a def of the module, as a value -/
theorem ev_glo {x : Str} (hg : Gl X x) (hm : X.mg x = some (.ref (G.ga x))) (hd : (x == ("__debug__" : Str)) = false := by decide) : EvE G X Wx (.Name x pos) (eC (.glo x)) := ev_c (pe_glob (v := .ref (G.ga x)) hg hm rfl hd) fun _ _ => .glo x
/-- a constant of the module -/
theorem ev_mstr {x z : Str} {t : Tok} (hg : Gl X x) (hm : X.mg x = some (.str z t)) (hd : (x == ("__debug__" : Str)) = false := by decide) : EvE G X Wx (.Name x pos) (eC (.str z)) := ev_c (pe_glob (v := .str z) hg hm ⟨t, rfl⟩ hd) fun _ _ => .str z
theorem ev_mint {x : Str} {z : Int} {t : Tok} (hg : Gl X x) (hm : X.mg x = some (.int z t)) (hd : (x == ("__debug__" : Str)) = false := by decide) : EvE G X Wx (.Name x pos) (eC (.int z)) := ev_c (pe_glob (v := .int z) hg hm ⟨t, rfl⟩ hd) fun _ _ => .int z
/-- a built-in type, as a value -/
theorem ev_ty {x : Str} {T : String} (hg : Gl X x) (hm : X.mg x = none) (hv : bootBuiltins x = some (.type T)) (hn : x ≠ "__name__" := by decide) (hd : (x == ("__debug__" : Str)) = false := by decide) : EvE G X Wx (.Name x pos) (eC (.ty T)) := ev_c (pe_bltn (v := .ty T) hg hm hv rfl hn hd) fun _ _ => .ty T
end
/-! ### signs -/
def OpS (G : Gc) (X : Cx) (Wx : WX) (f : Value → Value → Sem Value) (m : D → D → MM D) : Prop :=
  ∀ (pins : List (Addr × Obj)) (s : Shared) (σ : L2.St) (H : Hp) (x y : V) (v u : Value) (Q : VK) (L : Addr → V → Prop) (W : Wd) (st : Sto) (d1 d2 : D), Inv X pins σ H s → RelV x v → RelV y u → Lok L → WOk G L W H st → Rep G W H x d1 → Rep G W H y d2 →
    postE G L Wx σ W H Q (m d1 d2 st) → wpAny (model X.prog X.w) X.A (f v u) (EP X pins σ Q) X.xe s
def UnS (G : Gc) (X : Cx) (Wx : WX) (f : Value → Sem Value) (m : D → MM D) : Prop :=
  ∀ (pins : List (Addr × Obj)) (s : Shared) (σ : L2.St) (H : Hp) (x : V) (v : Value) (Q : VK) (L : Addr → V → Prop) (W : Wd) (st : Sto) (d1 : D), Inv X pins σ H s → RelV x v → Lok L → WOk G L W H st → Rep G W H x d1 →
    postE G L Wx σ W H Q (m d1 st) → wpAny (model X.prog X.w) X.A (f v) (EP X pins σ Q) X.xe s
def CallS (G : Gc) (X : Cx) (Wx : WX) (f : Value) (m : List D → MM D) : Prop :=
  ∀ (pins : List (Addr × Obj)) (s : Shared) (σ : L2.St) (H : Hp) (xs : List V) (us : List Value) (Q : VK) (L : Addr → V → Prop) (W : Wd) (st : Sto) (ds : List D), Inv X pins σ H s → Vals xs us → Lok L → WOk G L W H st → RepL G W H xs ds →
    postE G L Wx σ W H Q (m ds st) → wpAny (model X.prog X.w) X.A (call f us) (EP X pins σ Q) X.xe s
def TruS (G : Gc) (X : Cx) (Wx : WX) (m : D → MM Bool) : Prop :=
  ∀ (pins : List (Addr × Obj)) (s : Shared) (σ : L2.St) (H : Hp) (x : V) (v : Value) (Q : Bool → Hp → Prop) (L : Addr → V → Prop) (W : Wd) (st : Sto) (d1 : D), Inv X pins σ H s → RelV x v → Lok L → WOk G L W H st → Rep G W H x d1 →
    postT G L Wx σ W H Q (m d1 st) → wpAny (model X.prog X.w) X.A (truthy v) (TP X pins σ Q) X.xe s
theorem lok_of {G : Gc} {W : Wd} {H : Hp} {X : Cx} {sl : Sl} {σ : L2.St} (rs : RepS G W H σ sl) : Lok (LX X sl.lk σ) := lok_false
def eOp (f : D → D → MM D) (a b : EE) : EE := fun sl st => (a sl st).bind fun x st => (b sl st).bind fun y => f x y
def eUn (f : D → MM D) (a : EE) : EE := fun sl st => (a sl st).bind f
section
variable {G : Gc} {X : Cx} {Wx : WX} {pos : Pos} {a b c : Expr} {ma mb mc : EE}
theorem two {W : Wd} {σ : L2.St} {H : Hp} {Q : VK} {st : Sto} {sl : Sl} {f : D → D → MM D} (w : WOk G (LX X sl.lk σ) W H st) (rs : RepS G W H σ sl) (h : postE G (LX X sl.lk σ) Wx σ W H Q ((ma sl st).bind fun x st => (mb sl st).bind fun y => f x y)) :
    tE G X Wx ma σ H fun x H1 => tE G X Wx mb σ H1 fun y H2 => ∃ L W2 st2 d1 d2, Lok L ∧ WOk G L W2 H2 st2 ∧ Rep G W2 H2 x d1 ∧ Rep G W2 H2 y d2 ∧ postE G L Wx σ W2 H2 Q (f d1 d2 st2) := by
  refine tG_imp (one (rel' := Rep G) w rs h) fun x H1 ⟨W1, st1, d1, e1, w1, rs1, r1, _, h1⟩ => ?_
  refine tG_imp (one (rel' := Rep G) w1 rs1 h1) fun y H2 ⟨W2, st2, d2, e2, w2, rs2, r2, _, h2⟩ => ?_
  exact ⟨_, W2, st2, d1, d2, lok_of rs2, w2, r1.see e2.sees, r2, h2⟩
theorem ev_op {op : Operator} {f : D → D → MM D} (ho : OpS G X Wx (binaryOp op) f) (ha : EvE G X Wx a ma) (hb : EvE G X Wx b mb) : EvE G X Wx (.BinOp a op b pos) (eOp f ma mb) :=
  ⟨fun pins s σ H Q I ⟨W, st, sl, w, rs, h⟩ => wpAny_BinOp (bin ha hb I (two w rs h) fun v u s2 x y H2 I2 rx ry ⟨L, W2, st2, d1, d2, hL, w2, r1, r2, q⟩ => ho _ _ _ _ _ _ _ _ _ _ _ _ _ _ I2 rx ry hL w2 r1 r2 q)⟩
theorem ev_un {op : UnaryOp} {f : D → MM D} (ho : UnS G X Wx (unaryOp op) f) (ha : EvE G X Wx a ma) : EvE G X Wx (.UnaryOp op a pos) (eUn f ma) :=
  ⟨fun pins s σ H Q I ⟨W, st, sl, w, rs, h⟩ => UnaryOp_ (thn (ha.run pins s σ H _ I (one w rs h)) fun v s1 ⟨x, H1, I1, r1, W1, st1, d1, e1, w1, rs1, rr, _, h1⟩ => ho _ _ _ _ _ _ _ _ _ _ _ I1 r1 (lok_of rs1) w1 rr h1)⟩
/-- a comparison as a value; as a test -/
theorem ev_cmp {op : CmpOp} {f : D → D → MM D} (ho : OpS G X Wx (compareOp op) f) (ha : EvE G X Wx a ma) (hb : EvE G X Wx b mb) (hm : behindInMarks op b = false) : EvE G X Wx (.Compare a [op] [b] pos) (eOp f ma mb) :=
  ⟨fun pins s σ H Q I ⟨W, st, sl, w, rs, h⟩ => wpAny_Compare1 (bin ha hb I (two w rs h) fun v u s2 x y H2 I2 rx ry ⟨L, W2, st2, d1, d2, hL, w2, r1, r2, q⟩ => ho _ _ _ _ _ _ _ _ _ _ _ _ _ _ I2 rx ry hL w2 r1 r2 q) hm⟩
end
/-! ### tests -/
/-- a bool as it is -/
def isB (d : D) : MM Bool := fun st => match d with
  | .bl b => .ok b st
  | _ => .bad
def tCmpB (f : D → D → MM D) (a b : EE) : ET := fun sl st => (eOp f a b sl st).bind isB
def tVal (f : D → MM Bool) (a : EE) : ET := fun sl st => (a sl st).bind f
def tNotM (a : ET) : ET := fun sl st => (a sl st).bind fun b st => .ok (!b) st
def tAndM (a b : ET) : ET := fun sl st => (a sl st).bind fun x st => if x = true then b sl st else .ok false st
def tOrM (a b : ET) : ET := fun sl st => (a sl st).bind fun x st => if x = true then .ok true st else b sl st
def eIf (c : ET) (a b : EE) : EE := fun sl st => (c sl st).bind fun x st => if x = true then a sl st else b sl st
def tIfM (c : ET) (a b : ET) : ET := fun sl st => (c sl st).bind fun x st => if x = true then a sl st else b sl st
def eAnd (a b : EE) : EE := fun sl st => (a sl st).bind fun x st => (isB x st).bind fun x st => if x = true then b sl st else .ok (.bl false) st
def eOr (a b : EE) : EE := fun sl st => (a sl st).bind fun x st => (isB x st).bind fun x st => if x = true then .ok (.bl true) st else b sl st
def eNot (a : EE) : EE := fun sl st => (a sl st).bind fun x st => (isB x st).bind fun x st => .ok (.bl (!x)) st
section
variable {G : Gc} {X : Cx} {Wx : WX} {pos : Pos} {a b c : Expr} {ma mb mc : EE} {ta tb tc : ET} {rest : List Expr}
theorem rep_bl {W : Wd} {H : Hp} {v : V} {b : Bool} (r : Rep G W H v (.bl b)) : v = .bl b := by cases r; rfl
theorem rep_int {W : Wd} {H : Hp} {v : V} {b : Int} (r : Rep G W H v (.int b)) : v = .int b := by cases r; rfl
theorem rep_str {W : Wd} {H : Hp} {v : V} {b : Str} (r : Rep G W H v (.str b)) : v = .str b := by cases r; rfl
theorem rep_non {W : Wd} {H : Hp} {v : V} (r : Rep G W H v .non) : v = .non := by cases r; rfl
theorem et_cmp {op : CmpOp} {f : D → D → MM D} (ho : OpS G X Wx (compareOp op) f) (ha : EvE G X Wx a ma) (hb : EvE G X Wx b mb) (hm : behindInMarks op b = false) : EvT G X Wx (.Compare a [op] [b] pos) (tCmpB f ma mb) := by
  refine ⟨fun pins s σ H Q I ⟨W, st, sl, w, rs, h⟩ => ?_⟩
  refine wpAny_isTrue_Compare1 (bin ha hb I (two (f := fun x y st => (f x y st)) (Q := fun v H1 => ∃ L W1 st1 d, WOk G L W1 H1 st1 ∧ Rep G W1 H1 v d ∧ postT G L Wx σ W1 H1 Q (isB d st1)) w rs ?_) fun v u s2 x y H2 I2 rx ry ⟨L, W2, st2, d1, d2, hL, w2, r1, r2, q⟩ => ?_) hm
  · have h1 := post.bind (rel' := Rep G) h
    refine post.imp h1 fun v H1 ⟨W1, st1, d, e, w1, r, _, q⟩ => ⟨_, W1, st1, d, w1, r, q⟩
  · refine thn (ho _ _ _ _ _ _ _ _ _ _ _ _ _ _ I2 rx ry hL w2 r1 r2 q) fun c s3 ⟨x, H1, I1, r1, L', W1, st1, d, w1, rr, q1⟩ => ?_
    cases d with
    | bl z =>
      cases rep_bl rr
      cases r1
      exact wpAny_truthy_bool ⟨H1, I1, q1.same w1 rfl⟩
    | _ => exact False.elim q1
theorem et_val {f : D → MM Bool} (ht : TruS G X Wx f) (ha : EvE G X Wx a ma) (he : ∀ whole, isTrue a X.env whole = (do let v ← whole; standAt a.pos; holding [v] (truthy v)) := by intro _; rfl) : EvT G X Wx a (tVal f ma) :=
  ⟨fun pins s σ H Q I ⟨W, st, sl, w, rs, h⟩ => isTrue_plain (thn (ha.run pins s σ H _ I (one w rs h)) fun v s1 ⟨x, H1, I1, r1, W1, st1, d1, e1, w1, rs1, rr, _, h1⟩ => ht _ _ _ _ _ _ _ _ _ _ _ I1 r1 (lok_of rs1) w1 rr h1) (he _)⟩
/-- .. a bool -/
theorem tru_B : TruS G X Wx isB := by
  intro pins s σ H x v Q L W st d1 I rx hL w r h
  cases d1 with
  | bl z =>
    cases rep_bl r
    cases rx
    exact wpAny_truthy_bool ⟨H, I, h.same w rfl⟩
  | _ => exact False.elim h
theorem et_not (ha : EvT G X Wx a ta) : EvT G X Wx (.UnaryOp .Not a pos) (tNotM ta) :=
  PT.imp (pt_not ha) fun σ H Q ⟨W, st, sl, w, rs, h⟩ => tG_imp (one (rel' := relT) w rs h) fun b H1 ⟨W1, st1, d, e1, w1, rs1, rr, _, h1⟩ => h1.same w1 (by cases rr; rfl)
theorem ew_and1 (ha : EvT G X Wx a ta) : EvW G X Wx (.BoolOp .And [a] pos) ta := pw_and1 ha
theorem ew_or1 (ha : EvT G X Wx a ta) : EvW G X Wx (.BoolOp .Or [a] pos) ta := pw_or1 ha
theorem ew_and (ha : EvT G X Wx a ta) (hb : EvW G X Wx (.BoolOp .And (b :: rest) pos) tb) : EvW G X Wx (.BoolOp .And (a :: b :: rest) pos) (tAndM ta tb) :=
  PW.imp (pw_and ha hb) fun σ H Q ⟨W, st, sl, w, rs, h⟩ => tG_imp (one (rel' := relT) w rs h) fun b H1 ⟨W1, st1, d, e1, w1, rs1, rr, _, h1⟩ => by
    cases rr
    cases b with
    | true => exact ⟨W1, st1, sl, w1, rs1, h1⟩
    | false => exact h1.same w1 rfl
theorem ew_or (ha : EvT G X Wx a ta) (hb : EvW G X Wx (.BoolOp .Or (b :: rest) pos) tb) : EvW G X Wx (.BoolOp .Or (a :: b :: rest) pos) (tOrM ta tb) :=
  PW.imp (pw_or ha hb) fun σ H Q ⟨W, st, sl, w, rs, h⟩ => tG_imp (one (rel' := relT) w rs h) fun b H1 ⟨W1, st1, d, e1, w1, rs1, rr, _, h1⟩ => by
    cases rr
    cases b with
    | true => exact h1.same w1 rfl
    | false => exact ⟨W1, st1, sl, w1, rs1, h1⟩
theorem et_w (h : EvW G X Wx a ta) : EvT G X Wx a ta := PW.pt h
theorem ev_if (hc : EvT G X Wx c tc) (ha : EvE G X Wx a ma) (hb : EvE G X Wx b mb) : EvE G X Wx (.IfExp c a b pos) (eIf tc ma mb) :=
  PE.imp (pe_ifExp hc ha hb) fun σ H Q ⟨W, st, sl, w, rs, h⟩ => tG_imp (one (rel' := relT) w rs h) fun b H1 ⟨W1, st1, d, e1, w1, rs1, rr, _, h1⟩ => by
    cases rr
    cases b with
    | true => exact ⟨W1, st1, sl, w1, rs1, h1⟩
    | false => exact ⟨W1, st1, sl, w1, rs1, h1⟩
theorem bl_of {W : Wd} {H : Hp} {x : V} {d : D} {st : Sto} {L : Addr → V → Prop} {Q : VK} {f : Bool → MM D} {σ : L2.St} (r : Rep G W H x d) (w : WOk G L W H st) (h : postE G L Wx σ W H Q ((isB d st).bind f)) : ∃ z, x = .bl z ∧ d = .bl z ∧ postE G L Wx σ W H Q (f z st) := by
  cases d with
  | bl z => cases rep_bl r; exact ⟨z, rfl, rfl, h⟩
  | _ => exact False.elim h
theorem ev_one {op} (h : EvE G X Wx a ma) : EvE G X Wx (.BoolOp op [a] pos) ma := pe_one h
theorem ev_and (ha : EvE G X Wx a ma) (hb : EvE G X Wx (.BoolOp .And (b :: rest) pos) mb) : EvE G X Wx (.BoolOp .And (a :: b :: rest) pos) (eAnd ma mb) :=
  PE.imp (pe_and ha hb) fun σ H Q ⟨W, st, sl, w, rs, h⟩ => tG_imp (one (rel' := Rep G) w rs h) fun x H1 ⟨W1, st1, d, e1, w1, rs1, rr, _, h1⟩ => by
    obtain ⟨z, rfl, _, h2⟩ := bl_of rr w1 h1
    refine ⟨z, rfl, ?_⟩
    cases z with
    | true => exact ⟨W1, st1, sl, w1, rs1, h2⟩
    | false => exact h2.same w1 (.bl false)
theorem ev_or (ha : EvE G X Wx a ma) (hb : EvE G X Wx (.BoolOp .Or (b :: rest) pos) mb) : EvE G X Wx (.BoolOp .Or (a :: b :: rest) pos) (eOr ma mb) :=
  PE.imp (pe_or ha hb) fun σ H Q ⟨W, st, sl, w, rs, h⟩ => tG_imp (one (rel' := Rep G) w rs h) fun x H1 ⟨W1, st1, d, e1, w1, rs1, rr, _, h1⟩ => by
    obtain ⟨z, rfl, _, h2⟩ := bl_of rr w1 h1
    refine ⟨z, rfl, ?_⟩
    cases z with
    | true => exact h2.same w1 (.bl true)
    | false => exact ⟨W1, st1, sl, w1, rs1, h2⟩
theorem ev_not (ha : EvE G X Wx a ma) : EvE G X Wx (.UnaryOp .Not a pos) (eNot ma) :=
  PE.imp (pe_not ha) fun σ H Q ⟨W, st, sl, w, rs, h⟩ => tG_imp (one (rel' := Rep G) w rs h) fun x H1 ⟨W1, st1, d, e1, w1, rs1, rr, _, h1⟩ => by
    obtain ⟨z, rfl, _, h2⟩ := bl_of rr w1 h1
    exact ⟨z, rfl, h2.same w1 (.bl _)⟩
end
/-! ### argument lists, displays -/
def aNil : EA := fun _ st => .ok [] st
def aCons (a : EE) (r : EA) : EA := fun sl st => (a sl st).bind fun x st => (r sl st).bind fun xs st => .ok (x :: xs) st
def eCallD (m : List D → MM D) (as : EA) : EE := fun sl st => (as sl st).bind m
def mkTup (ds : List D) : MM D := fun st => if ds.length ≤ 1000000 then .ok (.tup ds) st else .bad
def mkLst (ds : List D) : MM D := fun st => if ds.length ≤ 1000000 then .ok (.lst ds) st else .bad
/-- a list that may change later -/
def mkLstM (ds : List D) : MM D := fun st => if ds.length ≤ 1000000 then .ok (.mref st.length) (st ++ [.lst ds]) else .bad
section
variable {G : Gc} {X : Cx} {Wx : WX} {pos : Pos} {e : Expr} {es : List Expr} {me : EE} {ma : EA}
theorem ea_nil : EvA G X Wx [] aNil := PA.imp pa_nil fun σ H Q ⟨W, st, sl, w, rs, h⟩ => post.same (v := []) h w .nil
theorem ea_cons (ha : EvE G X Wx e me) (hr : EvA G X Wx es ma) (hs : starEach (e :: es) X.env = (false, eval e X.env) :: starEach es X.env := by rfl) : EvA G X Wx (e :: es) (aCons me ma) :=
  PA.imp (pa_cons ha hr hs) fun σ H Q ⟨W, st, sl, w, rs, h⟩ => tG_imp (one (rel' := Rep G) w rs h) fun x H1 ⟨W1, st1, d, e1, w1, rs1, rr, _, h1⟩ =>
    tG_imp (one (rel' := RepL G) w1 rs1 h1) fun xs H2 ⟨W2, st2, d2, e2, w2, rs2, rr2, _, h2⟩ => h2.same w2 (.cons (rr.see e2.sees) rr2)
end
end MP
set_option Elab.async false
set_option linter.all false
set_option maxRecDepth 100000
set_option maxHeartbeats 1000000
namespace MP
open PySem PySem.Spec PyProof.Rows L2 SP
/-! ### new objects -/
def Wd.add (W : Wd) (p : Addr) : Wd := { W with F := fun a => W.F a ∨ a = p }
def Wd.push (W : Wd) (p : Addr) : Wd := { W with mu := W.mu ++ [p] }
section
variable {G : Gc} {L : Addr → V → Prop} {W : Wd} {H : Hp} {st : Sto} {p : Addr} {o : HO}
theorem RepO.some {a : Addr} {m : MO} (w : WOk G L W H st) (r : RepO G W H a m) : ∃ o, H a = some o ∧ ∀ ps, o ≠ .tbl ps := by
  cases m with
  | lst xs => obtain ⟨_, vs, h, _⟩ := r; exact ⟨_, h, fun _ z => nomatch z⟩
  | ins c gs => obtain ⟨_, dx, fs, h, _⟩ := r; exact ⟨_, h, fun _ z => nomatch z⟩
  | frz d => exact w.fh _ r.1
theorem WOk.mu_at (w : WOk G L W H st) {k : Nat} {a : Addr} (h : W.mu[k]? = some a) : ∃ m, st[k]? = some m ∧ RepO G W H a m := by
  have hk : k < st.length := by rw [← w.len]; exact (List.getElem?_eq_some_iff.mp h).1
  exact ⟨st[k], List.getElem?_eq_getElem hk, w.at_ k a _ h (List.getElem?_eq_getElem hk)⟩
theorem WOk.mu_ne (w : WOk G L W H st) (hp : H p = none) {k : Nat} {a : Addr} (h : W.mu[k]? = some a) : a ≠ p := by
  obtain ⟨m, _, r⟩ := w.mu_at h
  obtain ⟨o, e, _⟩ := r.some w
  exact ne_of_none e hp
theorem WOk.mu_mem (w : WOk G L W H st) (hp : H p = none) : p ∉ W.mu := fun h => by
  obtain ⟨k, hk, e⟩ := List.getElem_of_mem h
  exact w.mu_ne hp (k := k) (a := p) (by rw [List.getElem?_eq_getElem hk, e]) rfl
theorem WOk.f_ne (w : WOk G L W H st) (hp : H p = none) {a : Addr} (h : W.F a) : a ≠ p := by
  obtain ⟨o, e, _⟩ := w.fh a h
  exact ne_of_none e hp
theorem add_sees (w : WOk G L W H st) (hp : H p = none) : Sees W H (W.add p) (upd H p o) := ⟨fun a h => .inl h, fun a h => upd_ne (w.f_ne hp h), fun k a h => h⟩
theorem add_ext (w : WOk G L W H st) (hp : H p = none) : ExtE W H (W.add p) (upd H p o) := by
  refine ⟨fun a h => .inl h, fun a h => upd_ne (w.f_ne hp h), fun a h => ?_, ⟨[], (List.append_nil _).symm, by simp⟩, fun a h => ?_, fun _ _ h => h, fun a o h _ _ => ?_⟩
  · rcases h with h | rfl
    · exact .inl h
    · exact .inr (.inl hp)
  · by_cases e : a = p
    · rw [e]; exact hp
    · rw [upd_ne e] at h; exact h
  · rw [upd_ne (ne_of_none h hp)]; exact h
theorem cellH_upd {c : Addr} {v : V} (h : CellH H c v) (hp : H p = none) : CellH (upd H p o) c v := by
  obtain ⟨ob, u, h1, h2⟩ := h
  exact ⟨ob, u, by rw [upd_ne (ne_of_none h1 hp)]; exact h1, h2⟩
theorem add_ok (w : WOk G L W H st) (hp : H p = none) (ho : ∀ ps, o ≠ .tbl ps) : WOk G L (W.add p) (upd H p o) st := by
  refine ⟨w.len, w.nd, fun a h => ?_, fun k a m h1 h2 => ?_, fun c v h => (w.ce c v h).imp id fun z => cellH_upd z hp, w.gk.new hp (add_sees w hp)⟩
  · rcases h with h | rfl
    · rw [upd_ne (w.f_ne hp h)]; exact w.fh a h
    · exact ⟨o, upd_same, ho⟩
  · have ne := w.mu_ne hp h1
    exact (w.at_ k a m h1 h2).see (add_sees w hp) (fun z => z.elim id fun z => absurd z ne) (upd_ne ne)
theorem push_ext (w : WOk G L W H st) (hp : H p = none) : ExtE W H (W.push p) (upd H p o) := by
  refine ⟨fun a h => h, fun a h => upd_ne (w.f_ne hp h), fun a h => .inl h, ⟨[p], rfl, fun a h => by simp at h; rw [h]; exact hp⟩, fun a h => ?_, fun _ _ h => h, fun a o h _ _ => ?_⟩
  · by_cases e : a = p
    · rw [e]; exact hp
    · rw [upd_ne e] at h; exact h
  · rw [upd_ne (ne_of_none h hp)]; exact h
theorem push_ok (w : WOk G L W H st) (hp : H p = none) (ho : ∀ ps, o ≠ .tbl ps) {m : MO} (r : RepO G (W.push p) (upd H p o) p m) : WOk G L (W.push p) (upd H p o) (st ++ [m]) := by
  have ext := push_ext (o := o) w hp
  refine ⟨?_, ?_, fun a h => ?_, fun k a m' h1 h2 => ?_, fun c v h => (w.ce c v h).imp id fun z => cellH_upd z hp, w.gk.new hp ext.sees⟩
  · show (W.mu ++ [p]).length = _
    rw [List.length_append, List.length_append, w.len]
    rfl
  · show (W.mu ++ [p]).Nodup
    refine List.nodup_append.mpr ⟨w.nd, by simp, fun a ha b hb => ?_⟩
    simp at hb
    subst hb
    intro e
    subst e
    exact w.mu_mem hp ha
  · rw [upd_ne (w.f_ne hp h)]; exact w.fh a h
  · have h1 : (W.mu ++ [p])[k]? = some a := h1
    by_cases hk : k < W.mu.length
    · rw [List.getElem?_append_left hk] at h1
      rw [List.getElem?_append_left (by rw [← w.len]; exact hk)] at h2
      have ne := w.mu_ne hp h1
      exact (w.at_ k a m' h1 h2).see ext.sees (fun z => z) (upd_ne ne)
    · have hk' : W.mu.length ≤ k := by omega
      rw [List.getElem?_append_right hk'] at h1
      rw [List.getElem?_append_right (by rw [← w.len]; exact hk'), ← w.len] at h2
      cases q : k - W.mu.length with
      | zero =>
        rw [q] at h1 h2
        simp at h1 h2
        subst h1 h2
        exact r
      | succ n =>
        rw [q] at h1
        simp at h1
end
theorem small {n : Nat} (h : n ≤ 1000000) : n ≤ sizeLine := by rw [sizeLine_eq]; omega
section
variable {G : Gc} {X : Cx} {Wx : WX} {pos : Pos} {e : Expr} {es : List Expr} {me : EE} {ma : EA} {L : Addr → V → Prop} {W : Wd} {H : Hp} {st : Sto} {σ : L2.St} {Q : VK}
theorem ev_tup {x1} (h : EvA G X Wx es ma) : EvE G X Wx (.Tuple es x1 pos) (eCallD mkTup ma) :=
  PE.imp (pe_tup h) fun σ H Q ⟨W, st, sl, w, rs, h⟩ => tG_imp (one (rel' := RepL G) w rs h) fun xs H1 ⟨W1, st1, d, e1, w1, rs1, rr, _, h1⟩ => by
    unfold mkTup at h1
    split at h1
    · rename_i hl
      refine ⟨small (by rw [rr.len]; exact hl), fun p hp => h1 _ _ (W1.add p) (add_ext w1 hp) (add_ok w1 hp fun _ z => nomatch z) (.tup (.inr rfl) upd_same (rr.see (add_sees w1 hp)))⟩
    · exact False.elim h1
theorem ev_lst (h : EvA G X Wx es ma) : EvE G X Wx (.List es pos) (eCallD mkLst ma) :=
  PE.imp (pe_lst h) fun σ H Q ⟨W, st, sl, w, rs, h⟩ => tG_imp (one (rel' := RepL G) w rs h) fun xs H1 ⟨W1, st1, d, e1, w1, rs1, rr, _, h1⟩ => by
    unfold mkLst at h1
    split at h1
    · rename_i hl
      refine ⟨small (by rw [rr.len]; exact hl), fun p hp => h1 _ _ (W1.add p) (add_ext w1 hp) (add_ok w1 hp fun _ z => nomatch z) (.lst (.inr rfl) upd_same (rr.see (add_sees w1 hp)))⟩
    · exact False.elim h1
theorem push_mref (w : WOk G L W H st) (p : Addr) : (W.push p).mu[st.length]? = some p := by
  show (W.mu ++ [p])[st.length]? = some p
  rw [← w.len]
  simp
theorem ev_lstM (h : EvA G X Wx es ma) : EvE G X Wx (.List es pos) (eCallD mkLstM ma) :=
  PE.imp (pe_lst h) fun σ H Q ⟨W, st, sl, w, rs, h⟩ => tG_imp (one (rel' := RepL G) w rs h) fun xs H1 ⟨W1, st1, d, e1, w1, rs1, rr, _, h1⟩ => by
    unfold mkLstM at h1
    split at h1
    · rename_i hl
      refine ⟨small (by rw [rr.len]; exact hl), fun p hp => h1 _ _ (W1.push p) (push_ext w1 hp) (push_ok (o := .lst xs) w1 hp (fun _ z => nomatch z) ⟨fun z => w1.f_ne hp z rfl, xs, upd_same, rr.see (push_ext w1 hp).sees⟩) (.mref (push_mref w1 p))⟩
    · exact False.elim h1
/-! ### calls of defs -/
variable {k : Nat} {f : Addr} {m : List D → MM D} {x : Str} {p : Pos}
/-- what is written of a def that is called by its name -/
structure Nm (X : Cx) (G : Gc) (x : Str) : Prop where
  mg : X.mg x = some (.ref (G.ga x))
  kp : PySem.W.keepIn X.K (.ref (G.ga x)) = true
theorem ev_call (C : Ct X Wx k) (hK : X.K = G.K) (hg : Gl X x) (n : Nm X G x) (F : FS X.prog X.w G X.mg X.base k (G.ga x) m) (ha : EvA G X Wx (e :: es) ma) (hdb : (x == ("__debug__" : Str)) = false := by decide)
    (he : starEach (e :: es) X.env = (false, eval e X.env) :: starEach es X.env := by rfl) (hpl : (backTo pos (starEach es X.env)).any (·.1) = false := by rfl) : EvE G X Wx (.Call (.Name x p) (e :: es) [] pos) (eCallD m ma) := by
  refine ⟨fun pins s σ H Q I ⟨W, st, sl, w, rs, h⟩ => ?_⟩
  refine wpAny_Call_Name_kw (ld_glob I hg n.mg ?_ hdb)
  refine PySem.W.callWith_K (h₀ := X.base) I.ok.mod.kin n.kp (thn (ha.run pos pins s σ H _ I (one w rs h)) fun us s1 ⟨vs, H1, I1, r, W1, st1, d1, e1, w1, rs1, rr, _, h1⟩ => ⟨I1.kIn, ?_⟩) he hpl
  exact wpAny_call (runS F hK C.rm C.gd I1.env0 C.tk I1 r (lok_of rs1) w1 rr h1)
theorem ev_call0 (C : Ct X Wx k) (hK : X.K = G.K) (hg : Gl X x) (n : Nm X G x) (F : FS X.prog X.w G X.mg X.base k (G.ga x) m) (hdb : (x == ("__debug__" : Str)) = false := by decide) : EvE G X Wx (.Call (.Name x p) [] [] pos) (eCallD m aNil) := by
  refine ⟨fun pins s σ H Q I ⟨W, st, sl, w, rs, h⟩ => ?_⟩
  refine wpAny_Call_Name_kw (ld_glob I hg n.mg ?_ hdb)
  exact PySem.W.callWith_K0 I.kIn n.kp (wpAny_call (runS (us := []) F hK C.rm C.gd I.env0 C.tk I .nil (lok_of rs) w .nil h))
/-! ### built-in functions and types -/
theorem ev_callB {id : String} (hc : CallS G X Wx (.builtin id) m) (hg : Gl X x) (hm : X.mg x = none) (hv : bootBuiltins x = some (.builtin id)) (ha : EvA G X Wx (e :: es) ma) (hn : x ≠ "__name__" := by decide) (hdb : (x == ("__debug__" : Str)) = false := by decide)
    (he : starEach (e :: es) X.env = (false, eval e X.env) :: starEach es X.env := by rfl) (hpl : (backTo pos (starEach es X.env)).any (·.1) = false := by rfl) : EvE G X Wx (.Call (.Name x p) (e :: es) [] pos) (eCallD m ma) := by
  refine ⟨fun pins s σ H Q I ⟨W, st, sl, w, rs, h⟩ => ?_⟩
  refine wpAny_Call_Name_kw (ld_blt I hg hm hv ?_ hn hdb)
  exact PyProof.Rows.callWith_builtin1 (thn (ha.run pos pins s σ H _ I (one w rs h)) fun us s1 ⟨vs, H1, I1, r, W1, st1, d1, e1, w1, rs1, rr, _, h1⟩ => hc _ _ _ _ _ _ _ _ _ _ _ I1 r (lok_of rs1) w1 rr h1) he hpl
theorem ev_callT {T : String} (hc : CallS G X Wx (.type T) m) (hg : Gl X x) (hm : X.mg x = none) (hv : bootBuiltins x = some (.type T)) (ha : EvA G X Wx (e :: es) ma) (hn : x ≠ "__name__" := by decide) (hdb : (x == ("__debug__" : Str)) = false := by decide)
    (he : starEach (e :: es) X.env = (false, eval e X.env) :: starEach es X.env := by rfl) (hpl : (backTo pos (starEach es X.env)).any (·.1) = false := by rfl) : EvE G X Wx (.Call (.Name x p) (e :: es) [] pos) (eCallD m ma) := by
  refine ⟨fun pins s σ H Q I ⟨W, st, sl, w, rs, h⟩ => ?_⟩
  refine wpAny_Call_Name_kw (ld_blt I hg hm hv ?_ hn hdb)
  exact PyProof.Rows.callWith_type1 (thn (ha.run pos pins s σ H _ I (one w rs h)) fun us s1 ⟨vs, H1, I1, r, W1, st1, d1, e1, w1, rs1, rr, _, h1⟩ => hc _ _ _ _ _ _ _ _ _ _ _ I1 r (lok_of rs1) w1 rr h1) he hpl
end
/-! ### from HandS' rules by values -/
section
variable {G : Gc} {X : Cx} {Wx : WX}
theorem opS_of {f : Value → Value → Sem Value} {r : R2} {m : D → D → MM D} (ho : OpR X f r)
    (h : ∀ (σ : L2.St) (H : Hp) (x y : V) (Q : VK) (L : Addr → V → Prop) (W : Wd) (st : Sto) (d1 d2 : D), WOk G L W H st → Rep G W H x d1 → Rep G W H y d2 → postE G L Wx σ W H Q (m d1 d2 st) → r x y H Q) : OpS G X Wx f m :=
  fun pins s σ H x y v u Q L W st d1 d2 I rx ry hL w r1 r2 q => ho pins s σ H x y v u Q I rx ry (h σ H x y Q L W st d1 d2 w r1 r2 q)
theorem unS_of {f : Value → Sem Value} {r : V → Hp → VK → Prop} {m : D → MM D} (ho : UnR X f r)
    (h : ∀ (σ : L2.St) (H : Hp) (x : V) (Q : VK) (L : Addr → V → Prop) (W : Wd) (st : Sto) (d1 : D), WOk G L W H st → Rep G W H x d1 → postE G L Wx σ W H Q (m d1 st) → r x H Q) : UnS G X Wx f m :=
  fun pins s σ H x v Q L W st d1 I rx hL w r1 q => ho pins s σ H x v Q I rx (h σ H x Q L W st d1 w r1 q)
theorem callS_of {f : Value} {r : List V → Hp → VK → Prop} {m : List D → MM D} (ho : CallR X f r)
    (h : ∀ (σ : L2.St) (H : Hp) (x : List V) (Q : VK) (L : Addr → V → Prop) (W : Wd) (st : Sto) (ds : List D), WOk G L W H st → RepL G W H x ds → postE G L Wx σ W H Q (m ds st) → r x H Q) : CallS G X Wx f m :=
  fun pins s σ H x us Q L W st ds I rx hL w r1 q => ho pins s σ H x us Q I rx (h σ H x Q L W st ds w r1 q)
/-- the first that knows what to do -/
def orM (m1 m2 : D → D → MM D) : D → D → MM D := fun x y st => match m1 x y st with
  | .bad => m2 x y st
  | r => r
def orU (m1 m2 : α → MM D) : α → MM D := fun x st => match m1 x st with
  | .bad => m2 x st
  | r => r
theorem OpS.or {f : Value → Value → Sem Value} {m1 m2 : D → D → MM D} (h1 : OpS G X Wx f m1) (h2 : OpS G X Wx f m2) : OpS G X Wx f (orM m1 m2) := by
  intro pins s σ H x y v u Q L W st d1 d2 I rx ry hL w r1 r2 q
  unfold orM at q
  split at q
  · exact h2 _ _ _ _ _ _ _ _ _ _ _ _ _ _ I rx ry hL w r1 r2 q
  · exact h1 _ _ _ _ _ _ _ _ _ _ _ _ _ _ I rx ry hL w r1 r2 q
theorem UnS.or {f : Value → Sem Value} {m1 m2 : D → MM D} (h1 : UnS G X Wx f m1) (h2 : UnS G X Wx f m2) : UnS G X Wx f (orU m1 m2) := by
  intro pins s σ H x v Q L W st d1 I rx hL w r1 q
  unfold orU at q
  split at q
  · exact h2 _ _ _ _ _ _ _ _ _ _ _ I rx hL w r1 q
  · exact h1 _ _ _ _ _ _ _ _ _ _ _ I rx hL w r1 q
theorem CallS.or {f : Value} {m1 m2 : List D → MM D} (h1 : CallS G X Wx f m1) (h2 : CallS G X Wx f m2) : CallS G X Wx f (orU m1 m2) := by
  intro pins s σ H x us Q L W st ds I rx hL w r1 q
  unfold orU at q
  split at q
  · exact h2 _ _ _ _ _ _ _ _ _ _ _ I rx hL w r1 q
  · exact h1 _ _ _ _ _ _ _ _ _ _ _ I rx hL w r1 q
end
end MP
set_option Elab.async false
set_option linter.all false
set_option maxRecDepth 100000
set_option maxHeartbeats 1000000
namespace MP
open PySem PySem.Spec PyProof.Rows L2 SP
/-! ### what refers only to the first n objects of the store -/
mutual
def D.clean (n : Nat) : D → Bool
  | .non => true | .bl _ => true | .int _ => true | .str _ => true | .ty _ => true | .glo _ => true
  | .tup xs => cleanL n xs | .lst xs => cleanL n xs | .slst xs => cleanL n xs | .dic kvs => cleanK n kvs
  | .ins _ fs => cleanF n fs | .exc _ fs => cleanF n fs
  | .mref k => decide (k < n) | .lam _ cap => cleanL n cap
def cleanL (n : Nat) : List D → Bool
  | [] => true
  | d :: ds => d.clean n && cleanL n ds
def cleanF (n : Nat) : List (Str × D) → Bool
  | [] => true
  | (_, d) :: ds => d.clean n && cleanF n ds
def cleanK (n : Nat) : List (Key × D) → Bool
  | [] => true
  | (_, d) :: ds => d.clean n && cleanK n ds
end
def MO.clean (n : Nat) : MO → Bool
  | .lst xs => cleanL n xs
  | .ins _ fs => cleanF n fs
  | .frz d => d.clean n
section
variable {G : Gc} {W : Wd} {H : Hp} {n : Nat}
mutual
theorem Rep.clean : ∀ {v : V} {d : D}, Rep G W H v d → d.clean W.mu.length = true
  | _, _, .non => rfl
  | _, _, .bl b => rfl
  | _, _, .int i => rfl
  | _, _, .str x => rfl
  | _, _, .ty n => rfl
  | _, _, .glo x => rfl
  | _, _, .tup f h r => RepL.clean r
  | _, _, .lst f h r => RepL.clean r
  | _, _, .slst f h r => RepL.clean r
  | _, _, .dic f h r => RepK.clean r
  | _, _, .ins f h r => RepF.clean r
  | _, _, .exc f g h k r => RepF.clean r
  | _, _, .exc0 f h => rfl
  | _, _, .mref e => decide_eq_true (List.getElem?_eq_some_iff.mp e).1
  | _, _, .lam _ _ _ _ _ _ => rfl
theorem RepL.clean : ∀ {v : List V} {d : List D}, RepL G W H v d → cleanL W.mu.length d = true
  | _, _, .nil => rfl
  | _, _, .cons h r => by unfold cleanL; rw [Rep.clean h, RepL.clean r]; rfl
theorem RepF.clean : ∀ {v : List (Str × V)} {d : List (Str × D)}, RepF G W H v d → cleanF W.mu.length d = true
  | _, _, .nil => rfl
  | _, _, .cons h r => by unfold cleanF; rw [Rep.clean h, RepF.clean r]; rfl
theorem RepK.clean : ∀ {v : List (Key × V)} {d : List (Key × D)}, RepK G W H v d → cleanK W.mu.length d = true
  | _, _, .nil => rfl
  | _, _, .cons h r => by unfold cleanK; rw [Rep.clean h, RepK.clean r]; rfl
end
def Wd.cut (W : Wd) (n : Nat) : Wd := { W with mu := W.mu.take n }
theorem band {a b : Bool} (h : (a && b) = true) : a = true ∧ b = true := by simpa using h
mutual
theorem Rep.cut : ∀ {v : V} {d : D}, Rep G W H v d → d.clean n = true → Rep G (W.cut n) H v d
  | _, _, .non, _ => .non
  | _, _, .bl b, _ => .bl b
  | _, _, .int i, _ => .int i
  | _, _, .str x, _ => .str x
  | _, _, .ty n, _ => .ty n
  | _, _, .glo x, _ => .glo x
  | _, _, .tup f h r, c => .tup f h (RepL.cut r c)
  | _, _, .lst f h r, c => .lst f h (RepL.cut r c)
  | _, _, .slst f h r, c => .slst f h (RepL.cut r c)
  | _, _, .dic f h r, c => .dic f h (RepK.cut r c)
  | _, _, .ins f h r, c => .ins f h (RepF.cut r c)
  | _, _, .exc f g h k r, c => .exc f g h k (RepF.cut r c)
  | _, _, .exc0 f h, c => .exc0 f h
  | _, _, .mref e, c => .mref (by
    have hk := of_decide_eq_true c
    show (W.mu.take n)[_]? = _
    rw [List.getElem?_take_of_lt hk]
    exact e)
  | _, _, .lam e1 e2 f g h k, _ => .lam e1 e2 f g h k
theorem RepL.cut : ∀ {v : List V} {d : List D}, RepL G W H v d → cleanL n d = true → RepL G (W.cut n) H v d
  | _, _, .nil, _ => .nil
  | _, _, .cons h r, c => .cons (Rep.cut h (band c).1) (RepL.cut r (band c).2)
theorem RepF.cut : ∀ {v : List (Str × V)} {d : List (Str × D)}, RepF G W H v d → cleanF n d = true → RepF G (W.cut n) H v d
  | _, _, .nil, _ => .nil
  | _, _, .cons h r, c => .cons (Rep.cut h (band c).1) (RepF.cut r (band c).2)
theorem RepK.cut : ∀ {v : List (Key × V)} {d : List (Key × D)}, RepK G W H v d → cleanK n d = true → RepK G (W.cut n) H v d
  | _, _, .nil, _ => .nil
  | _, _, .cons h r, c => .cons (Rep.cut h (band c).1) (RepK.cut r (band c).2)
end
theorem RepO.clean {a : Addr} {o : MO} (r : RepO G W H a o) : o.clean W.mu.length = true := by
  cases o with
  | lst xs => obtain ⟨_, vs, _, r⟩ := r; exact r.clean
  | ins c gs => obtain ⟨_, dx, fs, _, r⟩ := r; exact r.clean
  | frz d => exact r.2.clean
theorem RepO.cut {a : Addr} {o : MO} (r : RepO G W H a o) (c : o.clean n = true) : RepO G (W.cut n) H a o := by
  cases o with
  | lst xs => obtain ⟨h, vs, h2, r⟩ := r; exact ⟨h, vs, h2, r.cut c⟩
  | ins d gs => obtain ⟨h, dx, fs, h2, r⟩ := r; exact ⟨h, dx, fs, h2, r.cut c⟩
  | frz d => exact ⟨r.1, r.2.cut c⟩
end
theorem RepX.cut {G : Gc} {W : Wd} {H : Hp} {n : Nat} {cls : Value} {dd : Option Addr} {e : D} (r : RepX G W H cls dd e) (c : e.clean n = true) : RepX G (W.cut n) H cls dd e := by
  obtain ⟨x, gs, rfl, h1, h2⟩ := r
  refine ⟨x, gs, rfl, h1, h2.imp id ?_⟩
  rintro ⟨d, fs, q1, q2, q3, q4⟩
  exact ⟨d, fs, q1, q2, q3, q4.cut c⟩
/-! ### a def's own objects of the store go with its end -/
def okCut (st st' : Sto) : Prop := ∀ i, i < st.length → st'[i]? = st[i]? ∨ ∃ o, st'[i]? = some o ∧ o.clean st.length = true
open Classical in
noncomputable def cut (st : Sto) (d : D) (st' : Sto) : Res D := if st'.length ≤ st.length then .ok d st' else if d.clean st.length = true ∧ okCut st st' then .ok d (st'.take st.length) else .bad
open Classical in
noncomputable def cutX (st : Sto) (d : D) (st' : Sto) : Res D := if st'.length ≤ st.length then .exc d st' else if d.clean st.length = true ∧ okCut st st' then .exc d (st'.take st.length) else .bad
noncomputable def fin (st : Sto) : SR → Res D
  | .rt d st' => cut st d st'
  | .nx _ st' => cut st .non st'
  | .exc e _ st' => cutX st e st'
  | _ => .bad
def start (np N : Nat) (ds : List D) : Sl := ⟨ds.map some ++ List.replicate (N - np) none, false⟩
noncomputable def mfn (np N : Nat) (body : SS) (ds : List D) : MM D := fun st => if ds.length = np then fin st (body st.length (start np N ds) st) else .bad
/-- .. that leaves new objects in the store -/
def finK : SR → Res D
  | .rt d st' => .ok d st'
  | .nx _ st' => .ok .non st'
  | .exc e _ st' => .exc e st'
  | _ => .bad
def mfnK (np N : Nat) (body : SS) (ds : List D) : MM D := fun st => if ds.length = np then finK (body st.length (start np N ds) st) else .bad
section
variable {G : Gc} {W W' : Wd} {H H' : Hp} {n : Nat} {st st' : Sto} {L L' : Addr → V → Prop}
theorem cut_ext (e : ExtE W H W' H') : ExtE W H (W'.cut W.mu.length) H' := by
  obtain ⟨l, q, r⟩ := e.mu
  refine ⟨e.f, e.hf, e.fn, ⟨[], ?_, by simp⟩, e.no, e.ce, e.keep⟩
  show W'.mu.take _ = _
  rw [q]
  simp
theorem cut_ok (w : WOk G L W H st) (e : ExtE W H W' H') (w' : WOk G L' W' H' st') (c : okCut st st') : WOk G L' (W'.cut W.mu.length) H' (st'.take st.length) := by
  obtain ⟨l, q, r⟩ := e.mu
  have hl := e.len
  refine ⟨?_, ?_, w'.fh, fun k a o h1 h2 => ?_, w'.ce, ?_⟩
  · show (W'.mu.take _).length = _
    rw [List.length_take, List.length_take, ← w.len, ← w'.len]
  · exact w'.nd.sublist (List.take_sublist _ _)
  · have hk : k < W.mu.length := by
      have h1 : (W'.mu.take W.mu.length)[k]? = some a := h1
      have := (List.getElem?_eq_some_iff.mp h1).1
      rw [List.length_take] at this
      omega
    have h1 : (W'.mu.take W.mu.length)[k]? = some a := h1
    rw [List.getElem?_take_of_lt hk] at h1
    rw [List.getElem?_take_of_lt (by rw [← w.len]; exact hk)] at h2
    refine (w'.at_ k a o h1 h2).cut ?_
    rcases c k (by rw [← w.len]; exact hk) with c | ⟨o', c1, c2⟩
    · rw [h2] at c
      have ha : W.mu[k]? = some a := by
        rw [q, List.getElem?_append_left hk] at h1
        exact h1
      exact (w.at_ k a o ha c.symm).clean
    · rw [h2] at c1
      cases c1
      rw [w.len]
      exact c2
  · exact ⟨w'.gk.tb, w'.gk.co, fun p hp => (w.gk.an p hp).trans (cut_ext e).sees⟩
end
/-! ### statements -/
def toS {α : Type} (r : Res α) (sl : Sl) (f : α → Sto → SR) : SR := match r with
  | .ok a st => f a st
  | .exc e st => .exc e sl st
  | .bad => .bad
def sNil : SS := fun _ sl st => .nx sl st
def sSeq (a b : SS) : SS := fun n sl st => match a n sl st with
  | .nx sl st => b n sl st
  | r => r
def Sl.set (sl : Sl) (i : Nat) (d : D) : Sl := ⟨sl.v.set i (some d), sl.lk && decide (i ≠ 0)⟩
def sExpr (m : EE) : SS := fun _ sl st => toS (m sl st) sl fun _ st => .nx sl st
def sSet (i : Nat) (m : EE) : SS := fun _ sl st => toS (m sl st) sl fun d st => .nx (sl.set i d) st
def sRet (m : EE) : SS := fun _ sl st => toS (m sl st) sl fun d st => .rt d st
def sRetN : SS := fun _ _ st => .rt .non st
def sIf (c : ET) (a b : SS) : SS := fun n sl st => toS (c sl st) sl fun x st => if x = true then a n sl st else b n sl st
def sBrk : SS := fun _ sl st => .bk sl st
def sCnt : SS := fun _ sl st => .ct sl st
section
variable {G : Gc} {X : Cx} {Wx : WX} {W W' : Wd} {H H' : Hp} {n : Nat} {Z : Ends} {σ : L2.St} {pos : Pos}
theorem postS.after {r : SR} (h : postS G X Wx n W H Z r) (e : Ext n W H W' H') (hl : n ≤ W.mu.length) : postS G X Wx n W' H' Z r := by
  cases r with
  | nx sl st => exact fun σ H2 W2 e2 => h σ H2 W2 (e.trans e2 (Nat.le_refl _) hl)
  | rt d st => exact fun v H2 W2 e2 => h v H2 W2 (e.trans e2 (Nat.le_refl _) hl)
  | bk sl st => exact fun σ H2 W2 e2 => h σ H2 W2 (e.trans e2 (Nat.le_refl _) hl)
  | ct sl st => exact fun σ H2 W2 e2 => h σ H2 W2 (e.trans e2 (Nat.le_refl _) hl)
  | exc x sl st => exact fun c dd σ H2 W2 e2 => h c dd σ H2 W2 (e.trans e2 (Nat.le_refl _) hl)
  | bad => exact h
theorem oneS {α β : Type} {rel : Wd → Hp → β → α → Prop} {m : Sl → MM α} {f : α → Sto → SR} {sl : Sl} {st : Sto} (hl : n ≤ W.mu.length) (w : WOk G (LX X sl.lk σ) W H st) (rs : RepS G W H σ sl) (h : postS G X Wx n W H Z (toS (m sl st) sl f)) :
    tG G X rel Wx m σ H fun v H1 => ∃ W1 st1 d, n ≤ W1.mu.length ∧ ExtE W H W1 H1 ∧ WOk G (LX X sl.lk σ) W1 H1 st1 ∧ RepS G W1 H1 σ sl ∧ rel W1 H1 v d ∧ m sl st = .ok d st1 ∧ postS G X Wx n W1 H1 Z (f d st1) := by
  refine ⟨W, st, sl, w, rs, ?_⟩
  revert h
  cases m sl st with
  | bad => exact id
  | exc e s => exact fun h c dd H' W' e w r => h c dd σ H' W' (Ext.mono e hl) w (rs.see e.sees) r
  | ok d s => exact fun h v H1 W1 e w r => ⟨W1, s, d, Nat.le_trans hl e.len, e, w, rs.see e.sees, r, rfl, h.after (Ext.mono e hl) hl⟩
variable {s : Stmt} {ss : List Stmt} {a b : SS} {e c : Expr} {me : EE} {tc : ET}
theorem evs_nil : EvSs G X Wx [] sNil := PSs.imp pss_nil fun Z σ H ⟨n, W, st, sl, hl, w, rs, h⟩ => h σ H W Ext.refl w rs
theorem evs_cons (h1 : EvS G X Wx s a) (h2 : EvSs G X Wx ss b) : EvSs G X Wx (s :: ss) (sSeq a b) := by
  refine PSs.imp (pss_cons h1 h2) fun Z σ H ⟨n, W, st, sl, hl, w, rs, h⟩ => ⟨n, W, st, sl, hl, w, rs, ?_⟩
  unfold sSeq at h
  revert h
  cases a n sl st with
  | nx sl' st' => exact fun h σ' H' W' e w' rs' => ⟨n, W', st', sl', Nat.le_trans hl e.len, w', rs', h.after e hl⟩
  | rt d st' => exact id
  | bk sl' st' => exact id
  | ct sl' st' => exact id
  | exc d sl' st' => exact id
  | bad => exact id
theorem evs_one (h1 : EvS G X Wx s a) : EvSs G X Wx [s] a := pss_one h1
theorem ev_expr (he : EvE G X Wx e me) (hs : swapsWith e none pos.line X.env = pure false := by rfl) : EvS G X Wx (.Expr e pos) (sExpr me) :=
  PS.imp (ps_expr he hs) fun Z σ H ⟨n, W, st, sl, hl, w, rs, h⟩ => tG_imp (oneS (rel := Rep G) hl w rs h) fun v H1 ⟨W1, st1, d, hl1, e1, w1, rs1, r, _, q⟩ => q σ H1 W1 Ext.refl w1 rs1
theorem ev_doc {x j pos pos'} : EvS G X Wx (.Expr (.Constant (.str x) j pos) pos') sNil := PS.imp ps_doc fun Z σ H ⟨n, W, st, sl, hl, w, rs, h⟩ => h σ H W Ext.refl w rs
theorem ev_pass : EvS G X Wx (.Pass pos) sNil := PS.imp ps_pass fun Z σ H ⟨n, W, st, sl, hl, w, rs, h⟩ => h σ H W Ext.refl w rs
theorem ev_break : EvS G X Wx (.Break pos) sBrk := PS.imp ps_break fun Z σ H ⟨n, W, st, sl, hl, w, rs, h⟩ => h σ H W Ext.refl w rs
theorem ev_continue : EvS G X Wx (.Continue pos) sCnt := PS.imp ps_continue fun Z σ H ⟨n, W, st, sl, hl, w, rs, h⟩ => h σ H W Ext.refl w rs
theorem ev_ret (he : EvE G X Wx e me) : EvS G X Wx (.Return (some e) pos) (sRet me) :=
  PS.imp (ps_ret he) fun Z σ H ⟨n, W, st, sl, hl, w, rs, h⟩ => tG_imp (oneS (rel := Rep G) hl w rs h) fun v H1 ⟨W1, st1, d, hl1, e1, w1, rs1, r, _, q⟩ => q v H1 W1 Ext.refl (w1.ln (lok_of rs1)) r
theorem ev_retN : EvS G X Wx (.Return none pos) sRetN := PS.imp ps_retN fun Z σ H ⟨n, W, st, sl, hl, w, rs, h⟩ => h .non H W Ext.refl (w.ln (lok_of rs)) .non
theorem ev_ifS {x y : List Stmt} (hc : EvT G X Wx c tc) (ha : EvSs G X Wx x a) (hb : EvSs G X Wx y b) : EvS G X Wx (.If c x y pos) (sIf tc a b) :=
  PS.imp (ps_if hc ha hb) fun Z σ H ⟨n, W, st, sl, hl, w, rs, h⟩ => tG_imp (oneS (rel := relT) hl w rs h) fun v H1 ⟨W1, st1, d, hl1, e1, w1, rs1, r, _, q⟩ => by
    cases r
    cases v with
    | true => exact ⟨n, W1, st1, sl, hl1, w1, rs1, q⟩
    | false => exact ⟨n, W1, st1, sl, hl1, w1, rs1, q⟩
theorem RepS.set {sl : Sl} {i : Nat} {v : V} {d : D} (rs : RepS G W H σ sl) (r : Rep G W H v d) : RepS G W H (σ.set i (some v)) (sl.set i d) := by
  refine ⟨by simp [Sl.set, rs.len], fun j d' e => ?_, fun z => ?_⟩
  case' refine_2 =>
    have z : (sl.lk && decide (i ≠ 0)) = true := z
    obtain ⟨z1, z2⟩ := (Bool.and_eq_true _ _).mp z
    rw [List.getElem?_set_ne (of_decide_eq_true z2)]
    exact rs.lk z1
  by_cases hj : j = i
  · subst hj
    have hlt : j < sl.v.length := by
      have := (List.getElem?_eq_some_iff.mp e).1
      simpa [Sl.set] using this
    have e' : (sl.v.set j (some d))[j]? = some (some d') := e
    rw [List.getElem?_set_self hlt] at e'
    cases e'
    exact ⟨v, List.getElem?_set_self (by rw [rs.len]; exact hlt), r⟩
  · have e' : (sl.v.set i (some d))[j]? = some (some d') := e
    rw [List.getElem?_set_ne (Ne.symm hj)] at e'
    obtain ⟨v', h1, h2⟩ := rs.at_ j d' e'
    exact ⟨v', by rw [List.getElem?_set_ne (Ne.symm hj)]; exact h1, h2⟩
theorem WOk.sig {sl : Sl} {st : Sto} {σ' : L2.St} (rs : RepS G W H σ sl) (w : WOk G (LX X sl.lk σ) W H st) : WOk G (LX X sl.lk σ') W H st := (w.ln (lok_of rs)).nl
theorem ev_set {i : Nat} {x : Str} {pos' : Pos} (hN : X.N.Nodup) (hi : X.N[i]? = some x) (hx : Loc X.env.scope x) (he : EvE G X Wx e me) (hs : swapsWith e (some (.Name x pos')) pos.line X.env = pure false := by rfl)
    (hf : X.fn x = true ∨ X.env.scope.names.lookup x = some .local := by first | exact .inl rfl | exact .inr rfl | assumption) : EvS G X Wx (.Assign [.Name x pos'] e pos) (sSet i me) :=
  PS.imp (ps_set hN hi hx he hs hf) fun Z σ H ⟨n, W, st, sl, hl, w, rs, h⟩ => tG_imp (oneS (rel := Rep G) hl w rs h) fun v H1 ⟨W1, st1, d, hl1, e1, w1, rs1, r, _, q⟩ => q _ H1 W1 Ext.refl (show WOk G (LX X sl.lk (σ.set i (some v))) W1 H1 st1 from w1.sig rs1) (rs1.set r)
end
/-! ### a def by its body -/
abbrev wOf (E : XK) : WX := fun cls d _ H => E cls d H
section
variable {P : Program} {w : World} {G : Gc} {mg : Str → Option Value} {base : Heap} {x qual : Str} {params : Arguments} {body : List Stmt} {scope : Scope} {dvs : List V} {kws : List (Str × V)} {f : Addr} {fd : FuncData} {N ps : List Str} {k : Nat} {m : SS}
abbrev bx (P : Program) (w : World) (G : Gc) (mg : Str → Option Value) (base : Heap) (N : List Str) (qual : Str) (scope : Scope) (f : Addr) (cd : Value) (A : Around) (outer : List Env) (s : Shared) (H : Hp) (E : XK) : Cx := cxOf (L2.CX P w) P w G.K mg base N qual scope f cd A outer s H E
def spMn (G : Gc) (n : Nat) (m : List D → MM D) : Sp := fun vs H Q E => vs.length = n ∧ spM G m vs H Q E
theorem start_rep {W : Wd} {H : Hp} {vs : List V} {ds : List D} (r : RepL G W H vs ds) (hN : ds.length ≤ N.length) : RepS G W H (L2.start N vs) (start ds.length N.length ds) := by
  have hl := r.len
  refine ⟨by simp [L2.start, start, hl], fun i d e => ?_, fun z => nomatch z⟩
  have e : (ds.map some ++ List.replicate (N.length - ds.length) none)[i]? = some (some d) := e
  show ∃ v, (vs.map some ++ List.replicate (N.length - vs.length) none)[i]? = some (some v) ∧ _
  by_cases hi : i < ds.length
  · rw [List.getElem?_append_left (by simpa using hi), List.getElem?_map] at e
    cases q : ds[i]? with
    | none => rw [q] at e; simp at e
    | some d' =>
      rw [q] at e
      simp at e
      subst e
      obtain ⟨v, h1, h2⟩ := r.get q
      exact ⟨v, by rw [List.getElem?_append_left (by simp [hl, hi]), List.getElem?_map, h1]; rfl, h2⟩
  · rw [List.getElem?_append_right (by simpa using hi)] at e
    rw [List.getElem?_replicate] at e
    split at e <;> simp at e
theorem ct_of {cdv : Value} {A : Around} {outer : List Env} {s : Shared} {H : Hp} {E : XK} (hr : Room k (bx P w G mg base N qual scope f cdv A outer s H E).A) (hg : A.guards = some []) : Ct (bx P w G mg base N qual scope f cdv A outer s H E) (wOf E) k :=
  ⟨takes_of rfl rfl rfl rfl, hr, hg, rfl, passes_of rfl⟩
/-- one call of a def, by its body -/
theorem run_G {oc dV kV doc pm cdv ct : Value} {od an : Option Addr} {osl : Array (Option Value)} {A : Around} {fr : List Env} {s : Shared} {H : Hp} {args : Args} {us' : List Value} {vs' : List V} {Q : VK} {E : XK} {t : TS}
    (lk : G.K.lookup f = some ⟨oc, od, .func (PySem.W.fnOf x qual params body scope dV kV doc pm an cdv ct), osl⟩) (hcd : PySem.W.codeIn G.K cdv qual = true) (S : FnScope N ps scope) (hr : Room (k + 1) A) (e0 : Env0 P w G.K mg base A fr s H)
    (hb : BindsTo s (PySem.W.fnOf x qual params body scope dV kV doc pm an cdv ct) args (ps.zip us')) (r : Vals vs' us') (hl : vs'.length = ps.length)
    (ht : PSs (bx P w G mg base N qual scope f cdv A fr s H E) body t) (hq : t { nx := fun _ H' => Q .non H', rt := Q } (L2.start N vs') H) :
    codeAny (model P w) A (.call (.ref f) args) (CR (L2.CX P w) fr P w H s Q E) s := by
  have kk : ∀ b o, base.get? b = some o → s.heap.get? b = some o := fun b o z => (e0.bs b o z).1
  have KX := e0.mod.kin.keeps kk
  refine codeAny_call_function hr.depth (KX _ _ lk) rfl S.co S.gen rfl (PySem.W.codeRec_of KX hcd) (hb _ _ _ _ (wpAny_newFunctionEnv_cells S.kind (fun y hy => ?_) fun env he s1 ic => ?_))
  · rcases S.par y.1 (List.of_mem_zip (a := y.1) (b := y.2) hy).1 with z | z
    · exact .inl z
    · exact .inr ⟨z, PySem.W.cellsFrom_some _ _ _ (.inl z)⟩
  · subst he
    refine ⟨(e0.mod.nolimit.keeps kk).keeps ic.toInCall.keep, codeAny_func (wpAny_mono (ht.run [] s1 _ H _ (inv_start S hr.hd e0 hl r ic) hq) (fun fl s2 z => ?_) fun _ _ z => z)⟩
    cases fl with
    | ret u =>
      obtain ⟨v, _, H2, J, rv, q⟩ := z
      exact ⟨v, H2, J.os, J.bare, J.base, J.hok, rv, q⟩
    | next =>
      obtain ⟨_, H2, J, q⟩ := z
      exact ⟨.non, H2, J.os, J.bare, J.base, J.hok, rfl, q⟩
    | brk =>
      obtain ⟨_, _, _, q⟩ := z
      exact False.elim q
    | cont =>
      obtain ⟨_, _, _, q⟩ := z
      exact False.elim q
/-- what a body is wanted for, given its mirror's end -/
theorem end_S {A : Around} {outer : List Env} {s : Shared} {H : Hp} {E : XK} {cdv : Value} {W : Wd} {st : Sto} {Q : VK} {r : SR} (w' : WOk G LN W H st) (h : postF G W H Q E (fin st r)) : postS G (bx P w G mg base N qual scope f cdv A outer s H E) (wOf E) st.length W H { nx := fun _ H' => Q .non H', rt := Q } r := by
  have hn : st.length = W.mu.length := w'.len.symm
  cases r with
  | nx sl' st' =>
    intro σ H' W' e w2 rs'
    rw [hn] at e
    have h : postF G W H Q E (cut st .non st') := h
    have w2 : WOk G LN W' H' st' := w2.ln (lok_of rs')
    unfold cut at h
    split at h
    · exact h .non H' W' e w2 .non
    · split at h
      · rename_i c
        exact h .non H' _ (cut_ext e) (cut_ok w' e w2 c.2) .non
      · exact False.elim h
  | rt d st' =>
    intro v H' W' e w2 rv
    rw [hn] at e
    have h : postF G W H Q E (cut st d st') := h
    unfold cut at h
    split at h
    · exact h v H' W' e w2 rv
    · split at h
      · rename_i c
        refine h v H' _ (cut_ext e) (cut_ok w' e w2 c.2) (rv.cut ?_)
        rw [w'.len]
        exact c.1
      · exact False.elim h
  | bk sl' st' => exact False.elim h
  | ct sl' st' => exact False.elim h
  | exc d sl' st' =>
    intro cls dd σ H' W' e w2 rs' rx
    rw [hn] at e
    have h : postF G W H Q E (cutX st d st') := h
    have w2 : WOk G LN W' H' st' := w2.ln (lok_of rs')
    unfold cutX at h
    split at h
    · exact h cls dd H' W' e w2 rx
    · split at h
      · rename_i c
        refine h cls dd H' _ (cut_ext e) (cut_ok w' e w2 c.2) (rx.cut ?_)
        rw [w'.len]
        exact c.1
      · exact False.elim h
  | bad => exact h
theorem end_SK {A : Around} {outer : List Env} {s : Shared} {H : Hp} {E : XK} {cdv : Value} {W : Wd} {st : Sto} {Q : VK} {r : SR} (w' : WOk G LN W H st) (h : postF G W H Q E (finK r)) : postS G (bx P w G mg base N qual scope f cdv A outer s H E) (wOf E) st.length W H { nx := fun _ H' => Q .non H', rt := Q } r := by
  have hn : st.length = W.mu.length := w'.len.symm
  cases r with
  | nx sl' st' => exact fun σ H' W' e w2 rs' => h .non H' W' (by rw [hn] at e; exact e) (w2.ln (lok_of rs')) .non
  | rt d st' => exact fun v H' W' e w2 rv => h v H' W' (by rw [hn] at e; exact e) w2 rv
  | bk sl' st' => exact False.elim h
  | ct sl' st' => exact False.elim h
  | exc d sl' st' => exact fun cls dd σ H' W' e w2 rs' rx => h cls dd H' W' (by rw [hn] at e; exact e) (w2.ln (lok_of rs')) rx
  | bad => exact h
/-- a def's mirror over its whole list of parameters -/
noncomputable def mFn (keep : Bool) (np N : Nat) (m : SS) : List D → MM D := if keep = true then mfnK np N m else mfn np N m
theorem mFn_bad {keep : Bool} {np N : Nat} {m : SS} {ds : List D} {st : Sto} (h : ds.length ≠ np) : mFn keep np N m ds st = .bad := by cases keep <;> exact if_neg h
/-- how a call's values come to the parameters: n by position, the keywords ks -/
structure Plan (G : Gc) (fd : FuncData) (ps : List Str) (n : Nat) (ks : List Str) (pl : List D → List D → List D) : Prop where
  to : ∃ (g : List Value → List Value → List Value) (gV : List V → List V → List V), (∀ (s : Shared) (us ws : List Value), G.K.In s.heap → us.length = n → ws.length = ks.length → BindsTo s fd ⟨us, ks.zip ws⟩ (ps.zip (g us ws))) ∧
    (∀ {vs : List V} {us : List Value} {zs : List V} {ws : List Value}, Vals vs us → Vals zs ws → us.length = n → ws.length = ks.length → Vals (gV vs zs) (g us ws)) ∧
    ∀ {W : Wd} {H : Hp} {vs zs : List V} {ds es : List D}, RepL G W H vs ds → RepL G W H zs es → ds.length = n → es.length = ks.length → RepL G W H (gV vs zs) (pl ds es)
/-- a def's code object -/
def CdOf (K : PySem.W.Frag) (f : Addr) (qual : Str) (cdv : Value) : Prop := ∃ (oc : Value) (od : Option Addr) (fd : FuncData) (osl : Array (Option Value)), K.lookup f = some ⟨oc, od, .func fd, osl⟩ ∧ fd.code = cdv ∧ fd.qualname = qual ∧ PySem.W.codeIn K cdv qual = true
/-- a def by its body -/
theorem fn_G {n : Nat} {ks : List Str} {pl : List D → List D → List D} {keep : Bool} (F : FunD G.K x qual params body scope dvs kws f fd) (S : FnScope N ps scope) (hN : ps.length ≤ N.length) (hp : Plan G fd ps n ks pl)
    (hbody : ∀ (cdv : Value), CdOf G.K f qual cdv → ∀ (A : Around) (outer : List Env) (s : Shared) (H : Hp) (E : XK), Ct (bx P w G mg base N qual scope f cdv A outer s H E) (wOf E) k → EvSs G (bx P w G mg base N qual scope f cdv A outer s H E) (wOf E) body m) :
    FK P w G mg base (k + 1) f n ks (fun ds es => mFn keep ps.length N.length m (pl ds es)) := by
  intro A fr s H us ws vs zs Q E hr hg e0 r rz l1 l2 ⟨W, st, ds, es, w', rl, rlz, h⟩
  have h : postF G W H Q E (mFn keep ps.length N.length m (pl ds es) st) := h
  have hl : (pl ds es).length = ps.length := by
    by_cases q : (pl ds es).length = ps.length
    · exact q
    · rw [mFn_bad q] at h
      exact False.elim h
  obtain ⟨g, gV, hb, hV, hR⟩ := hp.to
  have rl2 := hR rl rlz (by rw [← rl.len, r.length]; exact l1) (by rw [← rlz.len, rz.length]; exact l2)
  have hv : (gV vs zs).length = ps.length := by rw [rl2.len]; exact hl
  have hb' := hb s us ws (e0.mod.kin.keeps fun b o e => (e0.bs b o e).1) l1 l2
  obtain ⟨oc, od, dV, kV, doc, pm, an, cdv, ct, osl, rfl, lk, hcd, _, _⟩ := F.ex
  refine run_G lk hcd S hr e0 hb' (hV r rz l1 l2) hv (hbody cdv ⟨_, _, _, _, lk, rfl, rfl, hcd⟩ A fr s H E (ct_of (hr.deeper _) hg)) ⟨st.length, W, st, start ps.length N.length (pl ds es), by rw [w'.len]; exact Nat.le_refl _, w'.nl, by rw [← hl]; exact start_rep rl2 (by rw [hl]; exact hN), ?_⟩
  cases keep with
  | true =>
    have h : postF G W H Q E (mfnK ps.length N.length m (pl ds es) st) := h
    unfold mfnK at h
    rw [if_pos hl] at h
    exact end_SK w' h
  | false =>
    have h : postF G W H Q E (mfn ps.length N.length m (pl ds es) st) := h
    unfold mfn at h
    rw [if_pos hl] at h
    exact end_S w' h
theorem mfn_bad {np N : Nat} {m : SS} (ds : List D) (st : Sto) (h : ds.length ≠ np) : mfn np N m ds st = .bad := if_neg h
theorem mfnK_bad {np N : Nat} {m : SS} (ds : List D) (st : Sto) (h : ds.length ≠ np) : mfnK np N m ds st = .bad := if_neg h
end
end MP
set_option Elab.async false
set_option linter.all false
set_option maxRecDepth 100000
set_option maxHeartbeats 1000000
namespace MP
open PySem PySem.Spec PyProof.Rows L2 SP
/-! ### bounds -/
def B1 : Nat := 2 ^ 4000000
def B2 : Nat := 2 ^ 9000
theorem lt_B1 {n k : Nat} (h : n < 2 ^ k) (hk : k ≤ 4000000 := by decide) : n < B1 := Nat.lt_of_lt_of_le h (Nat.pow_le_pow_right (by decide) hk)
theorem lt_B2 {n k : Nat} (h : n < 2 ^ k) (hk : k ≤ 9000 := by decide) : n < B2 := Nat.lt_of_lt_of_le h (Nat.pow_le_pow_right (by decide) hk)
theorem B2_log {n : Nat} (h : n < B2) : n.log2 < 9000 := by
  by_cases e : n = 0
  · subst e; decide
  · exact (Nat.log2_lt e).mpr h
theorem B1_log {n : Nat} (h : n < B1) : n.log2 < 4000000 := by
  by_cases e : n = 0
  · subst e; decide
  · exact (Nat.log2_lt e).mpr h
/-- // by any divisor but 0, below 2 ^ 9000 -/
def CDivH (_ j : Int) : Prop := j ≠ 0 ∧ j.natAbs.log2 < 9000
/-- * of two factors of together less than ten million bits -/
def CMulX (i j : Int) : Prop := i.natAbs.log2 + j.natAbs.log2 < 10000000
theorem CMulX.ok {i j : Int} (h : CMulX i j) : IntMulOk i j := by
  have b : ∀ x : Int, Builtin.Int.intBits x ≤ x.natAbs.log2 + 1 := fun x => by
    unfold Builtin.Int.intBits
    split <;> omega
  have h1 := b i
  have h2 := b j
  have h3 : i.natAbs.log2 + j.natAbs.log2 < 10000000 := h
  have e : bitsLine = 134217728 := by decide
  unfold IntMulOk
  intro z
  rw [Bool.and_eq_true] at z
  have z2 := z.2
  unfold Builtin.Int.intTooBig at z2
  have z3 := of_decide_eq_true z2
  rw [e] at z3
  omega
theorem op_mulX {X : Cx} : OpR X (binaryOp .Mult) (rI CMulX fun i j => .int (i * j)) := opI fun _ _ _ _ _ _ _ hc q => mul_int q hc.ok
theorem op_fdivH {X : Cx} : OpR X (binaryOp .FloorDiv) (rI CDivH fun i j => .int (i.fdiv j)) := opI fun i j _ _ _ _ _ hc q => floordiv_int hc.1 q (.inl (PyProof.noPylong_of_log2 hc.2))
/-! ### ints -/
def iAdd : D → D → MM D | .int i, .int j => fun st => .ok (.int (i + j)) st | _, _ => fun _ => .bad
def iSub : D → D → MM D | .int i, .int j => fun st => .ok (.int (i - j)) st | _, _ => fun _ => .bad
def iMul : D → D → MM D | .int i, .int j => fun st => if i.natAbs < B1 ∧ j.natAbs < B1 then .ok (.int (i * j)) st else .bad | _, _ => fun _ => .bad
def iDiv : D → D → MM D | .int i, .int j => fun st => if j ≠ 0 ∧ j.natAbs < B2 then .ok (.int (i.fdiv j)) st else .bad | _, _ => fun _ => .bad
def iMod : D → D → MM D | .int i, .int j => fun st => if j ≠ 0 then .ok (.int (i.fmod j)) st else .bad | _, _ => fun _ => .bad
def iPow : D → D → MM D | .int i, .int j => fun st => if 0 ≤ j ∧ j ≤ 1000000 ∧ i.natAbs < 2 ^ 64 then .ok (.int (i ^ j.toNat)) st else .bad | _, _ => fun _ => .bad
def iNeg : D → MM D | .int i => fun st => .ok (.int (-i)) st | _ => fun _ => .bad
def iLt : D → D → MM D | .int i, .int j => fun st => .ok (.bl (decide (i < j))) st | _, _ => fun _ => .bad
def iLe : D → D → MM D | .int i, .int j => fun st => .ok (.bl (decide (i ≤ j))) st | _, _ => fun _ => .bad
def iGt : D → D → MM D | .int i, .int j => fun st => .ok (.bl (decide (j < i))) st | _, _ => fun _ => .bad
def iGe : D → D → MM D | .int i, .int j => fun st => .ok (.bl (decide (j ≤ i))) st | _, _ => fun _ => .bad
/-- x is None -/
def D.isN : D → Bool | .non => true | _ => false
def isNone : D → D → MM D | x, .non => fun st => .ok (.bl x.isN) st | _, _ => fun _ => .bad
def isNotNone : D → D → MM D | x, .non => fun st => .ok (.bl (!x.isN)) st | _, _ => fun _ => .bad
section
variable {G : Gc} {X : Cx} {Wx : WX} {f : Value → Value → Sem Value} {g : Value → Sem Value}
theorem opI_of {C : Int → Int → Prop} {r : Int → Int → V} {m : D → D → MM D} (ho : OpR X f (rI C r)) (h : ∀ d1 d2 st, (∃ i j d, d1 = .int i ∧ d2 = .int j ∧ C i j ∧ m d1 d2 st = .ok d st ∧ ∀ W H, Rep G W H (r i j) d) ∨ m d1 d2 st = .bad) : OpS G X Wx f m :=
  opS_of ho fun σ H x y Q L W st d1 d2 w r1 r2 q => by
    rcases h d1 d2 st with ⟨i, j, d, rfl, rfl, c, e, rd⟩ | e
    · rw [e] at q
      cases rep_int r1
      cases rep_int r2
      exact ⟨i, j, rfl, rfl, c, q.same w (rd W H)⟩
    · rw [e] at q
      exact False.elim q
theorem opI0_of {r : Int → Int → V} {m : D → D → MM D} (ho : OpR X f (rI0 r)) (h : ∀ d1 d2 st, (∃ i j d, d1 = .int i ∧ d2 = .int j ∧ m d1 d2 st = .ok d st ∧ ∀ W H, Rep G W H (r i j) d) ∨ m d1 d2 st = .bad) : OpS G X Wx f m :=
  opS_of ho fun σ H x y Q L W st d1 d2 w r1 r2 q => by
    rcases h d1 d2 st with ⟨i, j, d, rfl, rfl, e, rd⟩ | e
    · rw [e] at q
      cases rep_int r1
      cases rep_int r2
      exact ⟨i, j, rfl, rfl, q.same w (rd W H)⟩
    · rw [e] at q
      exact False.elim q
theorem s_add : OpS G X Wx (binaryOp .Add) iAdd := opI0_of op_add fun d1 d2 st => by
  unfold iAdd
  split
  · exact .inl ⟨_, _, _, rfl, rfl, rfl, fun _ _ => .int _⟩
  · exact .inr rfl
theorem s_sub : OpS G X Wx (binaryOp .Sub) iSub := opI0_of op_sub fun d1 d2 st => by
  unfold iSub
  split
  · exact .inl ⟨_, _, _, rfl, rfl, rfl, fun _ _ => .int _⟩
  · exact .inr rfl
theorem s_mul : OpS G X Wx (binaryOp .Mult) iMul := opI_of op_mulX fun d1 d2 st => by
  unfold iMul
  split
  · split
    · rename_i h
      refine .inl ⟨_, _, _, rfl, rfl, ?_, rfl, fun _ _ => .int _⟩
      have := B1_log h.1
      have := B1_log h.2
      unfold CMulX
      omega
    · exact .inr rfl
  · exact .inr rfl
theorem s_div : OpS G X Wx (binaryOp .FloorDiv) iDiv := opI_of op_fdivH fun d1 d2 st => by
  unfold iDiv
  split
  · split
    · rename_i h
      exact .inl ⟨_, _, _, rfl, rfl, ⟨h.1, B2_log h.2⟩, rfl, fun _ _ => .int _⟩
    · exact .inr rfl
  · exact .inr rfl
theorem s_mod : OpS G X Wx (binaryOp .Mod) iMod := opI_of op_modN fun d1 d2 st => by
  unfold iMod
  split
  · split
    · rename_i h
      exact .inl ⟨_, _, _, rfl, rfl, h, rfl, fun _ _ => .int _⟩
    · exact .inr rfl
  · exact .inr rfl
theorem s_pow : OpS G X Wx (binaryOp .Pow) iPow := opI_of op_pow fun d1 d2 st => by
  unfold iPow
  split
  · split
    · rename_i h
      exact .inl ⟨_, _, _, rfl, rfl, h, rfl, fun _ _ => .int _⟩
    · exact .inr rfl
  · exact .inr rfl
theorem s_lt : OpS G X Wx (compareOp .Lt) iLt := opI0_of op_lt fun d1 d2 st => by
  unfold iLt
  split
  · exact .inl ⟨_, _, _, rfl, rfl, rfl, fun _ _ => .bl _⟩
  · exact .inr rfl
theorem s_le : OpS G X Wx (compareOp .LtE) iLe := opI0_of op_le fun d1 d2 st => by
  unfold iLe
  split
  · exact .inl ⟨_, _, _, rfl, rfl, rfl, fun _ _ => .bl _⟩
  · exact .inr rfl
theorem s_gt : OpS G X Wx (compareOp .Gt) iGt := opI0_of op_gt fun d1 d2 st => by
  unfold iGt
  split
  · exact .inl ⟨_, _, _, rfl, rfl, rfl, fun _ _ => .bl _⟩
  · exact .inr rfl
theorem s_ge : OpS G X Wx (compareOp .GtE) iGe := opI0_of op_ge fun d1 d2 st => by
  unfold iGe
  split
  · exact .inl ⟨_, _, _, rfl, rfl, rfl, fun _ _ => .bl _⟩
  · exact .inr rfl
theorem s_neg : UnS G X Wx (unaryOp .USub) iNeg := unS_of un_neg fun σ H x Q L W st d1 w r q => by
  cases d1 with
  | int i => cases rep_int r; exact ⟨i, rfl, q.same w (.int _)⟩
  | _ => exact False.elim q
theorem non_of {W : Wd} {H : Hp} {x : V} {d : D} (r : Rep G W H x d) : decide (x = .non) = d.isN := by cases r <;> rfl
theorem s_isN : OpS G X Wx (compareOp .Is) isNone := opS_of op_isN fun σ H x y Q L W st d1 d2 w r1 r2 q => by
  cases d2 with
  | non =>
    refine ⟨rep_non r2, ?_⟩
    rw [non_of r1]
    exact q.same w (.bl _)
  | _ => exact False.elim q
theorem s_notN : OpS G X Wx (compareOp .IsNot) isNotNone := opS_of op_notN fun σ H x y Q L W st d1 d2 w r1 r2 q => by
  cases d2 with
  | non =>
    refine ⟨rep_non r2, ?_⟩
    rw [non_of r1]
    exact q.same w (.bl _)
  | _ => exact False.elim q
end
/-! ### texts, lists, tuples -/
def seqOf (d : D) (st : Sto) : Option (List D) := match d with
  | .lst xs => some xs
  | .mref k => match st[k]? with
    | some (.lst xs) => some xs
    | some (.frz (.lst xs)) => some xs
    | _ => none
  | _ => none
section
variable {G : Gc} {X : Cx} {Wx : WX} {L : Addr → V → Prop} {W : Wd} {H : Hp} {st : Sto}
theorem seq_at {x : V} {d : D} {xs : List D} (w : WOk G L W H st) (r : Rep G W H x d) (e : seqOf d st = some xs) : ∃ a vs, x = .ref a ∧ H a = some (.lst vs) ∧ RepL G W H vs xs := by
  unfold seqOf at e
  split at e
  · cases e
    cases r with
    | lst f h r => exact ⟨_, _, rfl, h, r⟩
  · rename_i k
    cases r with
    | mref hk =>
      obtain ⟨m, e1, r1⟩ := w.mu_at hk
      rw [e1] at e
      split at e
      · rename_i q
        cases q
        cases e
        obtain ⟨_, vs, h, r⟩ := r1
        exact ⟨_, vs, rfl, h, r⟩
      · rename_i q
        cases q
        cases e
        cases r1.2 with
        | lst f h r => exact ⟨_, _, rfl, h, r⟩
      · cases e
  · cases e
theorem tup_at {x : V} {xs : List D} (r : Rep G W H x (.tup xs)) : ∃ a vs, x = .ref a ∧ H a = some (.tup vs) ∧ RepL G W H vs xs := by
  cases r with
  | tup f h r => exact ⟨_, _, rfl, h, r⟩
end
def sAdd : D → D → MM D | .str a, .str b => fun st => if a.length + b.length ≤ 1000000 then .ok (.str (a ++ b)) st else .bad | _, _ => fun _ => .bad
def lAdd (x y : D) : MM D := fun st => match seqOf x st, seqOf y st with
  | some a, some b => if a.length + b.length ≤ 1000000 then .ok (.lst (a ++ b)) st else .bad
  | _, _ => .bad
def lMul (x y : D) : MM D := fun st => match seqOf x st, y with
  | some a, .int k => if a.length * k.toNat ≤ 1000000 ∧ k.natAbs ≤ 1000000 then .ok (.lst (List.replicate k.toNat a).flatten) st else .bad
  | _, _ => .bad
/-- x[i] -/
def dIx (x y : D) : MM D := fun st => match x, y with
  | .tup xs, .int i => match atI xs i with
    | some d => .ok d st
    | none => .bad
  | .str z, .int i => match atI z.cps.toList i with
    | some c => if z.length ≤ 1000000 then .ok (.str ⟨#[c]⟩) st else .bad
    | none => .bad
  | d, .int i => match seqOf d st with
    | some xs => match atI xs i with
      | some d => .ok d st
      | none => .bad
    | none => .bad
  | _, _ => .bad
section
variable {G : Gc} {X : Cx} {Wx : WX} {a b : Expr} {ma mb : EE} {pos : Pos}
theorem new_lst {L : Addr → V → Prop} {W : Wd} {H : Hp} {st : Sto} {σ : L2.St} {Q : VK} {vs : List V} {ds : List D} (w : WOk G L W H st) (r : RepL G W H vs ds) (h : postE G L Wx σ W H Q (.ok (.lst ds) st)) : ∀ p, H p = none → Q (.ref p) (upd H p (.lst vs)) :=
  fun p hp => h _ _ (W.add p) (add_ext w hp) (add_ok w hp fun _ z => nomatch z) (.lst (.inr rfl) upd_same (r.see (add_sees w hp)))
theorem new_tup {L : Addr → V → Prop} {W : Wd} {H : Hp} {st : Sto} {σ : L2.St} {Q : VK} {vs : List V} {ds : List D} (w : WOk G L W H st) (r : RepL G W H vs ds) (h : postE G L Wx σ W H Q (.ok (.tup ds) st)) : ∀ p, H p = none → Q (.ref p) (upd H p (.tup vs)) :=
  fun p hp => h _ _ (W.add p) (add_ext w hp) (add_ok w hp fun _ z => nomatch z) (.tup (.inr rfl) upd_same (r.see (add_sees w hp)))
theorem s_addS : OpS G X Wx (binaryOp .Add) sAdd := opS_of op_add_str fun σ H x y Q L W st d1 d2 w r1 r2 q => by
  unfold sAdd at q
  split at q
  · split at q
    · rename_i h
      cases rep_str r1
      cases rep_str r2
      exact ⟨_, _, rfl, rfl, small h, q.same w (.str _)⟩
    · exact False.elim q
  · exact False.elim q
theorem s_addL : OpS G X Wx (binaryOp .Add) lAdd := opS_of op_cat fun σ H x y Q L W st d1 d2 w r1 r2 q => by
  unfold lAdd at q
  split at q
  · rename_i a b e1 e2
    split at q
    · rename_i h
      obtain ⟨p, vs, rfl, h1, q1⟩ := seq_at w r1 e1
      obtain ⟨p2, vs2, rfl, h2, q2⟩ := seq_at w r2 e2
      exact ⟨p, p2, vs, vs2, rfl, rfl, h1, h2, small (by rw [q1.len, q2.len]; exact h), new_lst w (q1.app q2) q⟩
    · exact False.elim q
  · exact False.elim q
theorem RepL.flat {W : Wd} {H : Hp} {vs : List V} {ds : List D} (r : RepL G W H vs ds) : ∀ k : Nat, RepL G W H (List.replicate k vs).flatten (List.replicate k ds).flatten
  | 0 => .nil
  | k + 1 => by
    rw [List.replicate_succ, List.replicate_succ, List.flatten_cons, List.flatten_cons]
    exact r.app (RepL.flat r k)
theorem s_mulL : OpS G X Wx (binaryOp .Mult) lMul := opS_of op_rep fun σ H x y Q L W st d1 d2 w r1 r2 q => by
  unfold lMul at q
  split at q
  · rename_i a k e1
    split at q
    · rename_i h
      obtain ⟨p, vs, rfl, h1, q1⟩ := seq_at w r1 e1
      cases rep_int r2
      exact ⟨p, k, vs, rfl, rfl, h1, by omega, by omega, small (by rw [q1.len]; exact h.1), new_lst w (q1.flat _) q⟩
    · exact False.elim q
  · exact False.elim q
theorem atI_rep {W : Wd} {H : Hp} {vs : List V} {ds : List D} {i : Int} {d : D} (r : RepL G W H vs ds) (e : atI ds i = some d) : ∃ v, atI vs i = some v ∧ Rep G W H v d := by
  unfold atI at e ⊢
  rw [r.len]
  cases q : ixN ds.length i with
  | none => rw [q] at e; cases e
  | some j =>
    rw [q] at e
    exact r.get (i := j) e
theorem ev_ix (ha : EvE G X Wx a ma) (hb : EvE G X Wx b mb) (hs : PlainIx b) : EvE G X Wx (.Subscript a b pos) (eOp dIx ma mb) := by
  refine PE.imp (pe_ix ix_seq ha hb hs) fun σ H Q ⟨W, st, sl, w, rs, h⟩ => tG_imp (two w rs h) fun x H1 h1 => tG_imp h1 fun y H2 ⟨L, W2, st2, d1, d2, hL, w2, r1, r2, q⟩ => ?_
  unfold dIx at q
  split at q
  · split at q
    · rename_i e
      obtain ⟨p, vs, rfl, h1, q1⟩ := tup_at r1
      cases rep_int r2
      obtain ⟨v, e2, rv⟩ := atI_rep q1 e
      exact .inr (.inl ⟨p, vs, _, v, rfl, rfl, SqT.of h1, e2, q.same w2 rv⟩)
    · exact False.elim q
  · split at q
    · rename_i e
      split at q
      · rename_i hz
        cases rep_str r1
        cases rep_int r2
        exact .inr (.inr ⟨_, _, _, rfl, rfl, small hz, e, q.same w2 (.str _)⟩)
      · exact False.elim q
    · exact False.elim q
  · split at q
    · rename_i xs e1
      split at q
      · rename_i e
        obtain ⟨p, vs, rfl, h1, q1⟩ := seq_at w2 r1 e1
        cases rep_int r2
        obtain ⟨v, e2, rv⟩ := atI_rep q1 e
        exact .inl ⟨p, vs, _, v, rfl, rfl, SqL.of h1, e2, q.same w2 rv⟩
      · exact False.elim q
    · exact False.elim q
  · exact False.elim q
end
end MP
set_option Elab.async false
set_option linter.all false
set_option maxRecDepth 100000
set_option maxHeartbeats 1000000
namespace MP
open PySem PySem.Spec PyProof.Rows L2 SP
/-! ### classes: what a name of a class is -/
inductive Kd where
  | abs | xabs | fn (q : Str) | stat (q : Str) | clsm (q : Str) | prop (q : Str) | unk | m2
/-- types: a built-in one, an own class, an own exception -/
inductive Ty where
  | bi (n : String) | own (c : Str) | xc (c : Str)
  deriving DecidableEq
def Ty.val (G : Gc) : Ty → Value
  | .bi n => .type n
  | .own c => .ref (G.ga c)
  | .xc c => .ref (G.ga c)
/-- what a name of the module is -/
inductive GK where
  | fn | cls | xc | str (z : Str) | int (i : Int) | free
structure Tb where
  glo : Str → Option GK
  kind : Str → Str → Kd
  run : Str → List D → MM D
  kw : Str → Nat → List Str → Option (List D → List D → List D)
  inst : Str → Bool
  xcl : Str → Bool
  kit : Ty → Ty → Option Bool
  nsub : Str → Str → Bool
  xfl : Str → Option (List Str)
  exm : Str → Str → Bool
/-- the fields fs of an exception being made -/
def spXc (C : Addr) (fl : List Str) : Sp := fun vs H Q _ => ∃ (a : Addr) (ys : List V), vs = .ref a :: ys ∧ ys.length = fl.length ∧ H a = some (exo a C none) ∧
  ∀ dx H1, H dx = none → dx ≠ a → H1 a = some (exo a C (some dx)) → H1 dx = some (exd dx (fl.zip ys).reverse) → (∀ b, b ≠ a → b ≠ dx → H1 b = H b) → Q .non H1
/-- an own exception that is made with its fields -/
structure ExF (P : Program) (w : World) (K : PySem.W.Frag) (mg : Str → Option Value) (base : Heap) (C : Addr) (c : Str) (fl : List Str) : Prop where
  oex : OexC K C
  ini : ∃ fI fd ps, PySem.W.findIn K (.ref C) "__init__" = some (some (.ref fI)) ∧ PySem.W.typeIn K (.ref fI) = some (.type "function") ∧ FnOk P w K mg base CX0 1 fI fd ps (spXc C fl) ∧ Binds K fd ps []
  mg : mg c = some (.ref C)
def biT : List String := ["NoneType", "bool", "int", "str", "list", "tuple", "dict"]
/-- an own class whose instances are used -/
structure InstOk (K : PySem.W.Frag) (C : Addr) : Prop where
  cl : Cls K C
  ha : PySem.W.findIn K (.ref C) "__class__" = some (some (.builtin "object.__class__"))
  hn : PySem.W.specialIn K (.builtin "object.__class__") "__get__" = some (some (.builtin "getset_descriptor.__get__"))
  htk : PySem.W.takesIn K (.builtin "object.__class__") = some true
  hm : PySem.W.mroIn K C (.type "object") = some true
  sf : PySem.W.selfFirst K C = true
  nb : ∀ t ∈ biT, PySem.W.mroIn K C (.type t) = some false
  ne : PySem.W.findIn K (.ref C) "__ne__" = some (some (.builtin "object.__ne__"))
  fm : PySem.W.findIn K (.ref C) "__format__" = some (some (.builtin "object.__format__"))
/-- a class right below object -/
def mro2 (K : PySem.W.Frag) (C : Addr) : Bool := (PySem.W.clsIn K C).any fun cd => cd.mro == [.ref C, .type "object"]
def KdOk (K : PySem.W.Frag) (G : Gc) (T : Tb) (c f : Str) : Kd → Prop
  | .abs => Cls K (G.ga c) ∧ NoAttr K (G.ga c) f
  | .xabs => XfC K (G.ga c) ∧ PySem.W.findIn K (.ref (G.ga c)) f = some none
  | .fn q => Cls K (G.ga c) ∧ Meth K (G.ga c) f (G.fa q)
  | .m2 => mro2 K (G.ga c) = true
  | .stat q => ClX.CRead K (G.ga c) (.type "type") ∧ ∃ p, SMet K (G.ga c) (.type "type") f p (G.fa q)
  | .clsm q => ClX.CRead K (G.ga c) (.type "type") ∧ ∃ p, ClX.CMet K (G.ga c) (.type "type") f p (G.fa q)
  | .prop q => Cls K (G.ga c) ∧ ∃ p, PropOf K (G.ga c) f p (G.fa q)
  | .unk => True
/-- what is written of a class whose instances are made -/
structure MkC (X : Cx) (G : Gc) (c : Str) : Prop where
  makes : PySem.W.makesIn X.K (G.ga c) = true
  kp : PySem.W.keepIn X.K (.ref (G.ga c)) = true
  mg : X.mg c = some (.ref (G.ga c))
def GkOk (K : PySem.W.Frag) (mg : Str → Option Value) (G : Gc) (x : Str) : GK → Prop
  | .fn => mg x = some (.ref (G.ga x)) ∧ PySem.W.keepIn K (.ref (G.ga x)) = true
  | .cls => mg x = some (.ref (G.ga x)) ∧ PySem.W.keepIn K (.ref (G.ga x)) = true ∧ PySem.W.makesIn K (G.ga x) = true
  | .xc => mg x = some (.ref (G.ga x))
  | .str z => ∃ t, mg x = some (.str z t)
  | .int i => ∃ t, mg x = some (.int i t)
  | .free => mg x = none
/-- where code runs, with what is known of classes and defs (calls of level k) -/
structure En (G : Gc) (X : Cx) (Wx : WX) (k : Nat) (T : Tb) : Prop where
  tk : Takes X Wx
  rm : Room (k + 2) X.A
  gd : X.A.guards = some []
  calm : X.calm = true
  po : PassesOwn (model X.prog X.w) X.A X.env X.xe
  hK : X.K = G.K
  fsx : ∀ (e : Gx) q, FS X.prog X.w { G with x := e } X.mg X.base k (G.fa q) (T.run q)
  fkx : ∀ (e : Gx) q n ks pl, T.kw q n ks = some pl → FK X.prog X.w { G with x := e } X.mg X.base k (G.fa q) n ks (fun ds es => T.run q (pl ds es))
  kd : ∀ c f, KdOk X.K G T c f (T.kind c f)
  glo : ∀ x g, T.glo x = some g → GkOk X.K X.mg G x g
  fg : ∀ x, T.glo x = some .fn → G.fa x = G.ga x
  ins : ∀ c, T.inst c = true → InstOk X.K (G.ga c)
  exo : ∀ c, T.xcl c = true → ExcC X.K (G.ga c)
  kit : ∀ a b r, T.kit a b = some r → PySem.W.kitOne X.K (a.val G) (b.val G) = some r
  xf : ∀ c fl, T.xfl c = some fl → ExF X.prog X.w X.K X.mg X.base (G.ga c) c fl
  exm : ∀ c x, T.exm c x = true → PySem.W.exmOne X.K (.ref (G.ga c)) (.ref (G.ga x)) = some true
  nsub : ∀ c c', T.nsub c c' = true → PySem.W.mroIn X.K (G.ga c) (.ref (G.ga c')) = some false
  tb : ∀ p ∈ G.cs, LamX.TabB X.base X.mg p.1 p.2.1
  tu : ∀ p ∈ G.tabs, ∀ p' ∈ G.tabs, p'.1 = p.1 → p'.2 = p.2
theorem En.fs {G : Gc} {X : Cx} {Wx : WX} {k : Nat} {T : Tb} (N : En G X Wx k T) (q : Str) : FS X.prog X.w G X.mg X.base k (G.fa q) (T.run q) := N.fsx G.x q
theorem En.fk {G : Gc} {X : Cx} {Wx : WX} {k : Nat} {T : Tb} (N : En G X Wx k T) (q : Str) (n : Nat) (ks : List Str) (pl : List D → List D → List D) (h : T.kw q n ks = some pl) : FK X.prog X.w G X.mg X.base k (G.fa q) n ks (fun ds es => T.run q (pl ds es)) := N.fkx G.x q n ks pl h
/-- .. whatever else is known -/
theorem En.gx {G : Gc} {X : Cx} {Wx : WX} {k : Nat} {T : Tb} (N : En G X Wx k T) (e : Gx) : En { G with x := e } X Wx k T :=
  ⟨N.tk, N.rm, N.gd, N.calm, N.po, N.hK, N.fsx, N.fkx, N.kd, N.glo, N.fg, N.ins, N.exo, N.kit, N.xf, N.exm, N.nsub, N.tb, N.tu⟩
def clsOf (d : D) (st : Sto) : Option (Str × List (Str × D)) := match d with
  | .ins c gs => some (c, gs)
  | .mref k => match st[k]? with
    | some (.ins c gs) => some (c, gs)
    | some (.frz (.ins c gs)) => some (c, gs)
    | _ => none
  | _ => none
section
variable {G : Gc} {X : Cx} {Wx : WX} {k : Nat} {T : Tb} {L : Addr → V → Prop} {W W' W3 : Wd} {H H' H3 : Hp} {st st3 : Sto} {σ : L2.St} {pins : List (Addr × Obj)} {s : Shared} {Q : VK} {pos apos : Pos}
theorem ins_at {x : V} {d : D} {c : Str} {gs : List (Str × D)} (w : WOk G L W H st) (r : Rep G W H x d) (e : clsOf d st = some (c, gs)) : ∃ a dx fs, x = .ref a ∧ H a = some (.ins (G.ga c) dx fs) ∧ RepF G W H fs gs := by
  unfold clsOf at e
  split at e
  · cases e
    cases r with
    | ins f h r => exact ⟨_, _, _, rfl, h, r⟩
  · rename_i k
    cases r with
    | mref hk =>
      obtain ⟨m, e1, r1⟩ := w.mu_at hk
      rw [e1] at e
      split at e
      · rename_i q
        cases q
        cases e
        obtain ⟨_, dx, fs, h, r⟩ := r1
        exact ⟨_, dx, fs, rfl, h, r⟩
      · rename_i q
        cases q
        cases e
        cases r1.2 with
        | ins f h r => exact ⟨_, _, _, rfl, h, r⟩
      · cases e
  · cases e
theorem RepL.one_ {x : V} {d : D} (r : Rep G W H x d) : RepL G W H [x] [d] := .cons r .nil
theorem RepL.two_ {x y : V} {d d' : D} (r : Rep G W H x d) (r' : Rep G W H y d') : RepL G W H [x, y] [d, d'] := .cons r (.cons r' .nil)
theorem En.call (N : En G X Wx k T) {A : Around} {q : Str} {us : List Value} {vs : List V} {ds : List D} (hr : Room k A) (hgd : A.guards = some []) (e0 : Env0 X.prog X.w X.K X.mg X.base A X.stack s H) (I : Inv X pins σ H s) (r : Vals vs us) (hL : Lok L) (w : WOk G L W H st) (rl : RepL G W H vs ds)
    (h : postE G L Wx σ W H Q (T.run q ds st)) : codeAny (model X.prog X.w) A (.call (.ref (G.fa q)) ⟨us, []⟩) (fun r s' => match r with | .ok (.ret v) => EP X pins σ Q v s' | .ok _ => False | .error e => X.xe e s') s :=
  runS (N.fs q) N.hK hr hgd e0 N.tk I r hL w rl h
/-! ### x.f -/
def mAttr (T : Tb) (f : Str) (d : D) : MM D := fun st => match d with
  | .exc c gs => match T.kind c f with
    | .xabs => match gs.lookup f with
      | some v => .ok v st
      | none => .bad
    | _ => .bad
  | d => match clsOf d st with
    | some (c, gs) => match T.kind c f with
      | .abs => match gs.lookup f with
        | some v => .ok v st
        | none => .bad
      | .prop q => match T.run q [d] st with
        | .ok v st => .ok v st
        | _ => .bad
      | _ => .bad
    | none => .bad
theorem cx_false {P : Program} {w : World} {outer : List Env} {H : Hp} {s : Shared} {u : Value} {s' : Shared} (h : L2.CX P w outer H s (fun _ _ _ => False) u s') : False := by
  obtain ⟨a, B, H', cls, d, _, _, _, _, _, _, _, z⟩ := h
  exact z
theorem getprop_S {a dx p : Addr} {c f q : Str} {fs : List (Str × V)} {d : D} {b : Bool} {E' : Value → Shared → Prop} (N : En G X Wx k T) (I : Inv X pins σ H s) (ea : H a = some (.ins (G.ga c) dx fs)) (cl : Cls X.K (G.ga c)) (hp : PropOf X.K (G.ga c) f p (G.fa q))
    (hL : Lok L) (w : WOk G L W H st) (r : Rep G W H (.ref a) d) (h : postE G L (fun _ _ _ _ => False) σ W H Q (T.run q [d] st)) :
    wpAny (model X.prog X.w) X.A (getAttr (.ref a) f b) (EP X pins σ Q) E' s := by
  obtain ⟨mA, O, _, _, _, _⟩ := ins_get I.hok ea
  obtain ⟨od, J, _⟩ := O.look
  obtain ⟨rest, hrec⟩ := hp.rec_
  have I1 := I.tok (s.toks + 1)
  have hc : (PySem.W.clsIn X.K (G.ga c)).isSome = true := by
    obtain ⟨cd, hc, _⟩ := PySem.W.any_some cl.hd
    rw [hc]
    rfl
  refine PySem.W.get_bind I.kIn J (PySem.W.plainGet_of (cl.get f)).1 (PySem.W.findObj_data hc hp.at_ hp.get hp.tak) (PySem.W.plainGet_of (cl.get f)).2 (wpAny_call (PySem.W.prop_get (s := { s with toks := s.toks + 1 }) I.kIn hrec ?_))
  have e0 : Env0 X.prog X.w G.K X.mg X.base X.A.in1 X.stack { s with toks := s.toks + 1 } H := by
    have := I1.env0.in1
    rw [N.hK] at this
    exact this
  refine codeAny_mono (N.fs q X.A.in1 X.stack { s with toks := s.toks + 1 } H [.ref a] [.ref a] Q (fun _ _ _ => False) (N.rm.mono (by omega : k + 1 ≤ k + 2)).in1 N.gd e0 (.cons rfl .nil) ⟨W, st, [d], w.ln hL, RepL.one_ r, post_F hL h⟩) fun r s' hq => ?_
  cases r with
  | error er => exact False.elim (cx_false hq)
  | ok fl =>
    cases fl with
    | ret u =>
      obtain ⟨v, H', I3, rv, q3⟩ := I1.after hq
      show wpAny _ _ (handedOut u) _ _ _
      rw [PySem.W.handedOut_of (handed_of rv)]
      exact wpAny_pure ⟨v, H', I3, rv, q3⟩
    | next => exact False.elim hq
    | brk => exact False.elim hq
    | cont => exact False.elim hq
theorem post.nox {r : Res D} (h : postE G L Wx σ W H Q (match r with | .ok v st => .ok v st | _ => .bad)) : postE G L (fun _ _ _ _ => False) σ W H Q r := by
  cases r with
  | ok d st => exact h
  | exc d st => exact False.elim h
  | bad => exact h
theorem ev_attr {e : Expr} {me : EE} {f : Str} (N : En G X Wx k T) (he : EvE G X Wx e me) (hb : attributeBase e f X.env (eval e X.env) = eval e X.env := by rfl) : EvE G X Wx (.Attribute e f pos) (eUn (mAttr T f) me) := by
  refine ⟨fun pins s σ H Q I ⟨W, st, sl, w, rs, h⟩ => ?_⟩
  refine attr_of hb (thn (he.run pins s σ H _ I (one w rs h)) fun u s1 ⟨x, H1, I1, rx, W1, st1, d, e1, w1, rs1, rr, _, h1⟩ => ?_)
  unfold mAttr at h1
  split at h1
  · rename_i c gs _
    split at h1
    · rename_i hk
      split at h1
      · rename_i v hv
        have K := N.kd c f
        rw [hk] at K
        cases rr with
        | exc f1 f2 ha hd rf =>
          rename_i a dd fs
          obtain ⟨vv, l, rv⟩ := rf.get hv
          obtain rfl : u = Value.ref a := rx
          obtain ⟨oe, ha, hz, vs, hdd⟩ := exk_at I1.hok ha
          have hx : ObjOk X.prog X.w H1 s1.heap dd (.xd fs) := I1.hok dd _ hd
          obtain ⟨mA, hns, hr⟩ := hx
          obtain ⟨od, ho, hl⟩ := lookIn_ns hns
          obtain ⟨u, hu, ru⟩ := RelO.some_of (v := vv) (o := mA f) (by rw [← l]; exact hr f)
          have J : PySem.W.InstAt s1.heap a oe (G.ga c) (some od) := ⟨ha, hz.1, by unfold PySem.W.notCls; rw [hdd] <;> rfl, by rw [hz.2]; exact ho⟩
          exact HandSPX.exc_get I1.kIn J K.1.ga K.1.gg K.1.exC (PySem.W.findObj_own K.1.hdC K.2 rfl (by rw [hl, hu])) (handed_of ru) ⟨vv, H1, I1.tok _, ru, h1.same w1 rv⟩
        | exc0 f1 ha => simp at hv
      · exact False.elim h1
    · exact False.elim h1
  · split at h1
    · rename_i c gs hc
      obtain ⟨a, dx, fs, rfl, ea, rf⟩ := ins_at w1 rr hc
      obtain rfl : u = Value.ref a := rx
      split at h1
      · rename_i hk
        have K := N.kd c f
        rw [hk] at K
        split at h1
        · rename_i v hv
          obtain ⟨vv, l, rv⟩ := rf.get hv
          exact getattr_ok I1 ea K.1 K.2 l fun u' s2 I2 ru => ⟨vv, H1, I2, ru, h1.same w1 rv⟩
        · exact False.elim h1
      · rename_i q hk
        have K := N.kd c f
        rw [hk] at K
        obtain ⟨K1, p, K2⟩ := K
        exact getprop_S N I1 ea K1 K2 (lok_of rs1) w1 rr (post.nox h1)
      · exact False.elim h1
    · exact False.elim h1
/-! ### x.m(..) -/
def look (T : Tb) (m : Str) (d : D) (st : Sto) : Option (Str × List D) := match d with
  | .glo c => match T.kind c m with
    | .stat q => some (q, [])
    | .clsm q => some (q, [d])
    | _ => none
  | d => match clsOf d st with
    | some (c, gs) => match T.kind c m with
      | .fn q => if gs.lookup m = none then some (q, [d]) else none
      | _ => none
    | none => none
def eMeth (T : Tb) (m : Str) (me : EE) (ma : EA) : EE := fun sl st => (me sl st).bind fun d st => match look T m d st with
  | some (q, ds) => (ma sl st).bind fun xs => T.run q (ds ++ xs)
  | none => .bad
theorem ev_meth {pl : Sem Bool} {o e : Expr} {es : List Expr} {m : Str} {me : EE} {ma : EA} (N : En G X Wx k T) (he : EvE G X Wx o me) (ha : EvA G X Wx (e :: es) ma)
    (hst : starEach (e :: es) X.env = (false, eval e X.env) :: starEach es X.env := by rfl) (hpl : (backTo pos (starEach es X.env)).any (·.1) = false := by rfl)
    (ht : eval (.Call (.Attribute o m apos) (e :: es) [] pos) X.env = (do
      let ov ← eval o X.env
      standAt apos.atName
      let (f, first) ← holding [ov] (getMethod ov m pl)
      callWith pos f first (backTo pos (starEach (e :: es) X.env)) (backToKw pos (keywordEach [] X.env))) := by rfl) :
    EvE G X Wx (.Call (.Attribute o m apos) (e :: es) [] pos) (eMeth T m me ma) := by
  refine ⟨fun pins s σ H Q I ⟨W, st, sl, w, rs, h⟩ => ?_⟩
  refine PySem.W.methodCall_KW (pl := pl) (thn (he.run pins s σ H _ I (one w rs h)) fun u s1 ⟨x, H1, I1, rx, W1, st1, d, e1, w1, rs1, rr, _, h1⟩ => ?_) ht
  have hr : Room k X.A := N.rm.mono (by omega)
  split at h1
  · rename_i q ds hq
    unfold look at hq
    split at hq
    · rename_i c _
      cases rr with
      | glo =>
        obtain rfl : u = Value.ref (G.ga c) := rx
        split at hq
        · rename_i q' hk
          cases hq
          have K := N.kd c m
          rw [hk] at K
          obtain ⟨r, p, cm⟩ := K
          obtain ⟨rest, hp⟩ := cm.rc
          refine PySem.W.method_cls I1.kIn r.ga (PySem.W.cls_bind I1.kIn r.rd cm.at_ (wpAny_call (PySem.W.sm_get (s := { s1 with toks := s1.toks + 1 }) I1.kIn hp (PySem.W.handed_on rfl ?_))))
          have I2 : Inv X pins σ H1 { s1 with toks := s1.toks + 1 } := I1.tok _
          refine PySem.W.callWith_K (h₀ := X.base) I2.ok.mod.kin cm.kp (thn (ha.run pos pins _ σ H1 _ I2 (one w1 rs1 h1)) fun us s3 ⟨vs, H2, I3, rv, W2, st2, d2, e2, w2, rs2, rl, _, h2⟩ => ⟨I3.kIn, ?_⟩) hst hpl
          exact wpAny_call (N.call hr N.gd I3.env0 I3 rv (lok_of rs2) w2 rl h2)
        · rename_i q' hk
          cases hq
          have K := N.kd c m
          rw [hk] at K
          obtain ⟨r, p, cm⟩ := K
          refine ClX.getmethcm_ok I1 r cm fun s2 I2 => ?_
          refine ClX.callwith_cm I2 (ClX.base_none I1 (Nat.le_refl _)) cm.fi (thn (ha.run pos _ s2 σ H1 _ I2 (one w1 rs1 h1)) fun us s3 ⟨vs, H2, I3, rv, W2, st2, d2, e2, w2, rs2, rl, _, h2⟩ => ⟨⟨ClX.pin_at I3, I3.kIn⟩, ?_⟩) hst hpl
          have z := wpAny_call (PySem.W.method_call (ClX.pin_at I3) (N.call (us := .ref (G.ga c) :: us) (vs := .ref (G.ga c) :: vs) hr N.gd I3.env0 I3 (.cons rfl rv) (lok_of rs2) w2 (.cons (.glo c) rl) h2))
          exact thn z fun _ _ y => ClX.unpinE y
        · cases hq
    · split at hq
      · rename_i c gs hc
        obtain ⟨a, dx, fs, rfl, ea, rf⟩ := ins_at w1 rr hc
        obtain rfl : u = Value.ref a := rx
        split at hq
        · rename_i q' hk
          split at hq
          · rename_i hl
            cases hq
            have K := N.kd c m
            rw [hk] at K
            refine getmeth_ok I1 ea K.1 K.2 (rf.no hl) ?_
            refine PySem.W.callWith_K (first := [.ref a]) (h₀ := X.base) I.ok.mod.kin K.2.kp (thn (ha.run pos pins s1 σ H1 _ I1 (one w1 rs1 h1)) fun us s2 ⟨vs, H2, I2, rv, W2, st2, d2, e2, w2, rs2, rl, _, h2⟩ => ⟨I2.kIn, ?_⟩) hst hpl
            exact wpAny_call (N.call (us := .ref a :: us) (vs := .ref a :: vs) hr N.gd I2.env0 I2 (.cons rfl rv) (lok_of rs2) w2 (.cons (rr.see e2.sees) rl) h2)
          · cases hq
        · cases hq
      · cases hq
  · exact False.elim h1
def look0 (T : Tb) (m : Str) (d : D) (st : Sto) : Option (Str × List D) := match look T m d st with
  | some (_, [.glo _]) => none
  | r => r
def eMeth0 (T : Tb) (m : Str) (me : EE) : EE := fun sl st => (me sl st).bind fun d st => match look0 T m d st with
  | some (q, ds) => T.run q ds st
  | none => .bad
theorem ev_meth0 {pl : Sem Bool} {o : Expr} {m : Str} {me : EE} (N : En G X Wx k T) (he : EvE G X Wx o me)
    (ht : eval (.Call (.Attribute o m apos) [] [] pos) X.env = (do
      let ov ← eval o X.env
      standAt apos.atName
      let (f, first) ← holding [ov] (getMethod ov m pl)
      callWith pos f first (backTo pos (starEach [] X.env)) (backToKw pos (keywordEach [] X.env))) := by rfl) :
    EvE G X Wx (.Call (.Attribute o m apos) [] [] pos) (eMeth0 T m me) := by
  refine ⟨fun pins s σ H Q I ⟨W, st, sl, w, rs, h⟩ => ?_⟩
  refine PySem.W.methodCall_KW (pl := pl) (thn (he.run pins s σ H _ I (one w rs h)) fun u s1 ⟨x, H1, I1, rx, W1, st1, d, e1, w1, rs1, rr, _, h1⟩ => ?_) ht
  have hr : Room k X.A := N.rm.mono (by omega)
  split at h1
  · rename_i q ds hq
    have hq : look T m d st1 = some (q, ds) ∧ ∀ c, ds ≠ [.glo c] := by
      unfold look0 at hq
      split at hq
      · cases hq
      · rename_i z
        exact ⟨hq, fun c e => z q c (by rw [hq, e])⟩
    obtain ⟨hq, hne⟩ := hq
    unfold look at hq
    split at hq
    · rename_i c _ _
      cases rr with
      | glo =>
        obtain rfl : u = Value.ref (G.ga c) := rx
        split at hq
        · rename_i q' hk
          cases hq
          have K := N.kd c m
          rw [hk] at K
          obtain ⟨r, p, cm⟩ := K
          obtain ⟨rest, hp⟩ := cm.rc
          refine PySem.W.method_cls I1.kIn r.ga (PySem.W.cls_bind I1.kIn r.rd cm.at_ (wpAny_call (PySem.W.sm_get (s := { s1 with toks := s1.toks + 1 }) I1.kIn hp (PySem.W.handed_on rfl ?_))))
          have I2 : Inv X pins σ H1 { s1 with toks := s1.toks + 1 } := I1.tok _
          exact PySem.W.callWith_K0 I2.kIn cm.kp (wpAny_call (N.call (us := []) (vs := []) hr N.gd I2.env0 I2 .nil (lok_of rs1) w1 .nil h1))
        · cases hq
          exact absurd rfl (hne c)
        · cases hq
    · split at hq
      · rename_i c gs hc
        obtain ⟨a, dx, fs, rfl, ea, rf⟩ := ins_at w1 rr hc
        obtain rfl : u = Value.ref a := rx
        split at hq
        · rename_i q' hk
          split at hq
          · rename_i hl
            cases hq
            have K := N.kd c m
            rw [hk] at K
            refine getmeth_ok I1 ea K.1 K.2 (rf.no hl) ?_
            exact PySem.W.callWith_K0 (first := [.ref a]) I1.kIn K.2.kp (wpAny_call (N.call (us := [.ref a]) (vs := [.ref a]) hr N.gd I1.env0 I1 (.cons rfl .nil) (lok_of rs1) w1 (.cons rr .nil) h1))
          · cases hq
        · cases hq
      · cases hq
  · exact False.elim h1
end
end MP
set_option Elab.async false
set_option linter.all false
set_option maxRecDepth 100000
set_option maxHeartbeats 1000000
namespace MP
open PySem PySem.Spec PyProof.Rows L2 SP
theorem nodup_at {α : Type} {l : List α} (h : l.Nodup) {i j : Nat} {a : α} (h1 : l[i]? = some a) (h2 : l[j]? = some a) : i = j := by
  obtain ⟨i1, e1⟩ := List.getElem?_eq_some_iff.mp h1
  obtain ⟨j1, e2⟩ := List.getElem?_eq_some_iff.mp h2
  have p := List.pairwise_iff_getElem.mp h
  rcases Nat.lt_trichotomy i j with q | q | q
  · exact absurd (e1.trans e2.symm) (p i j i1 j1 q)
  · exact q
  · exact absurd (e2.trans e1.symm) (p j i j1 i1 q)
/-! ### an object of the store is written -/
section
variable {G : Gc} {X : Cx} {Wx : WX} {k n : Nat} {T : Tb} {L L' : Addr → V → Prop} {W W' W3 : Wd} {H H' H3 : Hp} {st st3 : Sto} {σ : L2.St} {pins : List (Addr × Obj)} {s : Shared} {Q : VK} {pos pos' apos : Pos} {a : Addr} {o : HO} {m m' : MO}
theorem upd_sees (hf : ¬ W.F a) : Sees W H W (upd H a o) := ⟨fun _ h => h, fun b h => upd_ne fun e => hf (e ▸ h), fun _ _ h => h⟩
theorem upd_ext {k : Nat} (hk : W.mu[k]? = some a) (hf : ¬ W.F a) (hn : H a ≠ none) : Ext n W H W (upd H a o) := by
  refine ⟨fun _ h => h, fun b h => upd_ne fun e => hf (e ▸ h), fun _ h => .inl h, ⟨[], (List.append_nil _).symm, by simp⟩, fun b h => ?_, fun _ _ h => h, fun b u h hm _ => ?_⟩
  · by_cases e : b = a
    · rw [e, upd_same] at h; cases h
    · rw [upd_ne e] at h; exact h
  · rw [upd_ne (fun e : b = a => hm (by rw [e]; exact List.mem_of_getElem? hk))]; exact h
theorem upd_ok (w : WOk G L W H st) {k : Nat} (hk : W.mu[k]? = some a) (hf : ¬ W.F a) (r : RepO G W (upd H a o) a m') : WOk G L W (upd H a o) (st.set k m') := by
  have kl : k < W.mu.length := (List.getElem?_eq_some_iff.mp hk).1
  refine ⟨by rw [w.len, List.length_set], w.nd, fun b h => ?_, fun j b u h1 h2 => ?_, fun c v h => (w.ce c v h).imp id fun z => ?_, ?_⟩
  · rw [upd_ne (fun e : b = a => hf (by rw [← e]; exact h))]; exact w.fh b h
  · by_cases hj : j = k
    · subst hj
      rw [hk] at h1
      cases h1
      rw [List.getElem?_set_self (by rw [← w.len]; exact kl)] at h2
      cases h2
      exact r
    · rw [List.getElem?_set_ne (Ne.symm hj)] at h2
      have ne : b ≠ a := fun e => by
        subst e
        exact hj (nodup_at w.nd h1 hk)
      exact (w.at_ j b u h1 h2).see (upd_sees hf) (fun z => z) (upd_ne ne)
  · obtain ⟨ob, u, h1, h2⟩ := z
    refine ⟨ob, u, ?_, h2⟩
    rw [upd_ne]
    · exact h1
    · intro e
      subst e
      obtain ⟨mm, e1, r1⟩ := w.mu_at hk
      cases mm with
      | lst xs => obtain ⟨_, vs, h, _⟩ := r1; rw [h] at h1; cases h1
      | ins c gs => obtain ⟨_, dx, fs, h, _⟩ := r1; rw [h] at h1; cases h1
      | frz d => exact hf r1.1
  · obtain ⟨mm, e1, r1⟩ := w.mu_at hk
    cases mm with
    | lst xs => obtain ⟨_, vs, h, _⟩ := r1; exact w.gk.wri h (upd_sees hf) (fun _ z => nomatch z) (fun _ z => nomatch z)
    | ins c gs => obtain ⟨_, dx, fs, h, _⟩ := r1; exact w.gk.wri h (upd_sees hf) (fun _ z => nomatch z) (fun _ z => nomatch z)
    | frz d => exact absurd r1.1 hf
theorem WOk.ins_mu (w : WOk G L W H st) {k : Nat} {c : Str} {gs : List (Str × D)} (hk : W.mu[k]? = some a) (e : st[k]? = some (.ins c gs)) : ¬ W.F a ∧ ∃ dx fs, H a = some (.ins (G.ga c) dx fs) ∧ RepF G W H fs gs := w.at_ k a _ hk e
theorem WOk.lst_mu (w : WOk G L W H st) {k : Nat} {xs : List D} (hk : W.mu[k]? = some a) (e : st[k]? = some (.lst xs)) : ¬ W.F a ∧ ∃ vs, H a = some (.lst vs) ∧ RepL G W H vs xs := w.at_ k a _ hk e
/-! ### x.f = e -/
def setF (T : Tb) (f : Str) (d v : D) (st : Sto) : Option Sto := match d with
  | .mref k => match st[k]? with
    | some (.ins c gs) => match T.kind c f with
      | .abs => if gs.length < 1000 then some (st.set k (.ins c (putD f v gs))) else none
      | _ => none
    | _ => none
  | _ => none
def sFldM (T : Tb) (f : Str) (me mv : EE) : SS := fun _ sl st => toS (mv sl st) sl fun v st => toS (me sl st) sl fun d st => match setF T f d v st with
  | some st => .nx sl st
  | none => .bad
theorem ev_fld {o value : Expr} {f : Str} {me mv : EE} (N : En G X Wx k T) (ha : EvE G X Wx o me) (hv : EvE G X Wx value mv) (hs : swapsWith value (some (.Attribute o f pos')) pos.line X.env = pure false := by rfl) :
    EvS G X Wx (.Assign [.Attribute o f pos'] value pos) (sFldM T f me mv) :=
  PS.imp (ps_fld ha hv hs) fun Z σ H ⟨n, W, st, sl, hl, w, rs, h⟩ => tG_imp (oneS (rel := Rep G) hl w rs h) fun y H1 ⟨W1, st1, v, hl1, e1, w1, rs1, rv, _, h1⟩ =>
    tG_imp (oneS (rel := Rep G) hl1 w1 rs1 h1) fun x H2 ⟨W2, st2, d, hl2, e2, w2, rs2, rd, _, h2⟩ => by
      unfold setF at h2
      split at h2
      · rename_i st' hst
        split at hst
        · rename_i kk
          split at hst
          · rename_i c gs hk
            split at hst
            · rename_i hkd
              split at hst
              · rename_i hlen
                cases hst
                cases rd with
                | @mref a _ hm =>
                  obtain ⟨nf, dx, fs, ea, rf⟩ := w2.ins_mu hm hk
                  have K := N.kd c f
                  rw [hkd] at K
                  refine ⟨a, G.ga c, dx, fs, rfl, ea, K.1, K.2, by rw [rf.len]; exact hlen, ?_⟩
                  have rv2 := rv.see e2.sees
                  have se := upd_sees (H := H2) (o := .ins (G.ga c) dx (putF f y fs)) nf
                  exact h2 σ _ W2 (upd_ext hm nf (by rw [ea]; exact fun z => nomatch z)) (upd_ok w2 hm nf ⟨nf, dx, _, upd_same, (rf.see se).put (rv2.see se)⟩) (rs2.see se)
              · cases hst
            · cases hst
          · cases hst
        · cases hst
      · exact False.elim h2
/-! ### a new instance -/
theorem skip_ok {p : Addr} (w : WOk G L W H st) (hp : H p = none) : WOk G L W (upd H p o) st := by
  refine ⟨w.len, w.nd, fun a h => ?_, fun k a m h1 h2 => ?_, fun c v h => (w.ce c v h).imp id fun z => cellH_upd z hp, w.gk.new hp ⟨fun _ h => h, fun a h => upd_ne (w.f_ne hp h), fun _ _ h => h⟩⟩
  · rw [upd_ne (w.f_ne hp h)]; exact w.fh a h
  · have ne := w.mu_ne hp h1
    exact (w.at_ k a m h1 h2).see ⟨fun _ h => h, fun a h => upd_ne (w.f_ne hp h), fun _ _ h => h⟩ (fun z => z) (upd_ne ne)
theorem skip_ext {p : Addr} (w : WOk G L W H st) (hp : H p = none) : ExtE W H W (upd H p o) := by
  refine ⟨fun a h => h, fun a h => upd_ne (w.f_ne hp h), fun a h => .inl h, ⟨[], (List.append_nil _).symm, by simp⟩, fun a h => ?_, fun _ _ h => h, fun a o h _ _ => ?_⟩
  · by_cases e : a = p
    · rw [e]; exact hp
    · rw [upd_ne e] at h; exact h
  · rw [upd_ne (ne_of_none h hp)]; exact h
theorem okCut_app {l : Sto} : okCut st (st ++ l) := fun i hi => .inl (List.getElem?_append_left hi)
variable {x dx C : Addr} {c : Str}
theorem new_ok (w : WOk G L W H st) (hx : H x = none) (hd : H dx = none) (hne : dx ≠ x) : WOk G L (W.push x) (upd (upd H dx (.own x)) x (.ins (G.ga c) dx [])) (st ++ [.ins c []]) ∧ ExtE W H (W.push x) (upd (upd H dx (.own x)) x (.ins (G.ga c) dx [])) := by
  have w1 := skip_ok (o := .own x) w hd
  have e1 := skip_ext (o := .own x) w hd
  have hx1 : upd H dx (.own x) x = none := by rw [upd_ne (Ne.symm hne)]; exact hx
  have e2 := push_ext (o := .ins (G.ga c) dx []) w1 hx1
  exact ⟨push_ok (o := .ins (G.ga c) dx []) w1 hx1 (fun _ z => by cases z) ⟨fun z => w1.f_ne hx1 z rfl, dx, [], upd_same, .nil⟩, e1.trans e2⟩
/-- the instance is made and will not change any more -/
theorem made_ok (w : WOk G L W H st) (hx : H x = none) (e : ExtE W H W3 H3) (hmu : W3.mu[W.mu.length]? = some x) (w3 : WOk G L' W3 H3 st3) {gs : List (Str × D)} (ho : st3[st.length]? = some (.ins c gs)) (cl : cleanF st.length gs = true) (ok : okCut st st3) :
    ExtE W H ((W3.cut W.mu.length).add x) H3 ∧ WOk G L' ((W3.cut W.mu.length).add x) H3 (st3.take st.length) ∧ Rep G ((W3.cut W.mu.length).add x) H3 (.ref x) (.ins c gs) := by
  have ho' : st3[W.mu.length]? = some (.ins c gs) := by rw [w.len]; exact ho
  obtain ⟨nf, dx, fs, ea, rf⟩ := w3.ins_mu hmu ho'
  have ec := cut_ext e
  have wc := cut_ok w e w3 ok
  have xn : ∀ {j : Nat} {b : Addr}, (W3.cut W.mu.length).mu[j]? = some b → b ≠ x := fun {j b} h z => by
    subst z
    have hj : j < W.mu.length := by
      have := (List.getElem?_eq_some_iff.mp h).1
      simp [Wd.cut] at this
      omega
    have h' : (W3.mu.take W.mu.length)[j]? = some b := h
    rw [List.getElem?_take_of_lt hj] at h'
    have := nodup_at w3.nd h' hmu
    omega
  have sees : Sees (W3.cut W.mu.length) H3 ((W3.cut W.mu.length).add x) H3 := ⟨fun _ h => .inl h, fun _ _ => rfl, fun _ _ h => h⟩
  refine ⟨⟨fun b h => .inl (ec.f b h), ec.hf, fun b h => ?_, ec.mu, ec.no, ec.ce, ec.keep⟩, ⟨wc.len, wc.nd, fun b h => ?_, fun j b m h1 h2 => ?_, wc.ce, wc.gk.same sees⟩, ?_⟩
  · rcases h with h | rfl
    · exact ec.fn b h
    · exact .inr (.inl hx)
  · rcases h with h | rfl
    · exact wc.fh b h
    · exact ⟨_, ea, fun _ z => nomatch z⟩
  · have ne := xn h1
    exact (wc.at_ j b m h1 h2).see sees (fun z => z.elim id fun z => absurd z ne) rfl
  · refine .ins (.inr rfl) ea ((rf.cut ?_).see sees)
    rw [w.len]
    exact cl
open Classical in
noncomputable def mkI (T : Tb) (c : Str) (ds : List D) : MM D := fun st => match T.kind c "__init__" with
  | .fn q => match T.run q (.mref st.length :: ds) (st ++ [.ins c []]) with
    | .ok .non st3 => match st3[st.length]? with
      | some (.ins c' gs) => if c' = c ∧ cleanF st.length gs = true ∧ okCut st st3 then .ok (.ins c gs) (st3.take st.length) else .bad
      | _ => .bad
    | .exc e st3 => if e.clean st.length = true ∧ okCut st st3 then .exc e (st3.take st.length) else .bad
    | _ => .bad
  | _ => .bad
/-- .. that may change later -/
def mkIM (T : Tb) (c : Str) (ds : List D) : MM D := fun st => match T.kind c "__init__" with
  | .fn q => match T.run q (.mref st.length :: ds) (st ++ [.ins c []]) with
    | .ok .non st3 => .ok (.mref st.length) st3
    | .exc e st3 => .exc e st3
    | _ => .bad
  | _ => .bad
theorem gd_make {A : Around} {C : Addr} {us : List Value} {kw : List (Str × Value)} (h : A.guards = some []) : (A.under (.builtin "type.__call__" ⟨.ref C :: us, kw⟩)).guards = some [] := by
  first | exact h | simpa [Around.under, Code.isGuard, guardIds] using h
open Classical in
theorem make_S {vs : List V} {us : List Value} {ds : List D} (N : En G X Wx k T) (M : MkC X G c) (I : Inv X pins σ H s) (r : Vals vs us) (hL : Lok L) (w : WOk G L W H st) (rl : RepL G W H vs ds) (h : postE G L Wx σ W H Q (mkI T c ds st)) :
    wpAny (model X.prog X.w) X.A (call (.ref (G.ga c)) us) (EP X pins σ Q) X.xe s := by
  unfold mkI at h
  split at h
  · rename_i q hk
    have K := N.kd c "__init__"
    rw [hk] at K
    have hr : Room (k + 1) X.A := N.rm.mono (by omega)
    have nx := I.hok.fresh (Nat.le_succ s.heap.objs.size)
    have nd := I.hok.fresh (Nat.le_refl s.heap.objs.size)
    have I2 := Inv.made (C := G.ga c) I
    obtain ⟨w2, e2⟩ := new_ok (c := c) w nx nd (Nat.ne_of_lt (Nat.lt_succ_self _))
    have rl2 : RepL G (W.push (s.heap.objs.size + 1)) _ (.ref (s.heap.objs.size + 1) :: vs) (.mref st.length :: ds) := .cons (.mref (push_mref w _)) (rl.see e2.sees)
    refine wpAny_call (make_map (f := G.fa q) I.kIn M.makes K.2.at_ (beq_iff_eq.mp K.2.fn) (codeAny_mono (N.call (Q := fun v H' => v = .non ∧ Q (.ref (s.heap.objs.size + 1)) H') (us := .ref (s.heap.objs.size + 1) :: us) (vs := .ref (s.heap.objs.size + 1) :: vs) (hr.make _ us []) (gd_make N.gd) (I2.env0.make _ us []) I2 (.cons rfl r) hL w2 rl2 ?_) fun r s' hq' => ?_))
    · revert h
      cases T.run q (.mref st.length :: ds) (st ++ [.ins c []]) with
      | bad => exact id
      | exc e st3 =>
        intro h cls dd H' W' e' w' rx
        have h : postE G L Wx σ W H Q (if e.clean st.length = true ∧ okCut st st3 then .exc e (st3.take st.length) else .bad) := h
        split at h
        · rename_i hc
          have ee := e2.trans e'
          refine h cls dd H' _ (cut_ext ee) (cut_ok w ee w' hc.2) (rx.cut ?_)
          rw [w.len]
          exact hc.1
        · exact False.elim h
      | ok d st3 =>
        cases d with
        | non =>
          intro h v H' W' e' w' rv
          have ee := e2.trans e'
          refine ⟨rep_non rv, ?_⟩
          have h : postE G L Wx σ W H Q (match st3[st.length]? with
            | some (.ins c' gs) => if c' = c ∧ cleanF st.length gs = true ∧ okCut st st3 then .ok (.ins c gs) (st3.take st.length) else .bad
            | _ => .bad) := h
          split at h
          · rename_i c' gs ho
            split at h
            · rename_i hc
              obtain ⟨rfl, hc1, hc2⟩ := hc
              have hmu : W'.mu[W.mu.length]? = some (s.heap.objs.size + 1) := e'.sees.mu _ _ (by rw [w.len]; exact push_mref w _)
              obtain ⟨z1, z2, z3⟩ := made_ok w nx ee hmu w' ho hc1 hc2
              exact h _ H' _ z1 z2 z3
            · exact False.elim h
          · exact False.elim h
        | _ => exact False.elim
    · cases r with
      | error e => exact hq'
      | ok fl =>
        cases fl with
        | ret u =>
          obtain ⟨v, H', I3, rv, ev, q3⟩ := hq'
          subst ev
          exact ⟨rv, ⟨V.ref (s.heap.objs.size + 1), H', I3, rfl, q3⟩⟩
        | next => exact False.elim hq'
        | brk => exact False.elim hq'
        | cont => exact False.elim hq'
  · exact False.elim h
theorem ev_make {e : Expr} {es : List Expr} {ma : EA} {p : Pos} (N : En G X Wx k T) (M : MkC X G c) (hg : Gl X c) (ha : EvA G X Wx (e :: es) ma) (hdb : (c == ("__debug__" : Str)) = false := by decide)
    (he : starEach (e :: es) X.env = (false, eval e X.env) :: starEach es X.env := by rfl) (hpl : (backTo pos (starEach es X.env)).any (·.1) = false := by rfl) : EvE G X Wx (.Call (.Name c p) (e :: es) [] pos) (eCallD (mkI T c) ma) := by
  refine ⟨fun pins s σ H Q I ⟨W, st, sl, w, rs, h⟩ => ?_⟩
  refine wpAny_Call_Name_kw (ld_glob I hg M.mg ?_ hdb)
  refine PySem.W.callWith_K (h₀ := X.base) I.ok.mod.kin M.kp (thn (ha.run pos pins s σ H _ I (one w rs h)) fun us s1 ⟨vs, H1, I1, r, W1, st1, d1, e1, w1, rs1, rr, _, h1⟩ => ⟨I1.kIn, ?_⟩) he hpl
  exact make_S N M I1 r (lok_of rs1) w1 rr h1
end
end MP
set_option Elab.async false
set_option linter.all false
set_option maxRecDepth 100000
set_option maxHeartbeats 1000000
namespace MP
open PySem PySem.Spec PyProof.Rows L2 SP
/-! ### types of values -/
def tyOf (d : D) (st : Sto) : Option Ty := match d with
  | .non => some (.bi "NoneType") | .bl _ => some (.bi "bool") | .int _ => some (.bi "int") | .str _ => some (.bi "str")
  | .tup _ => some (.bi "tuple") | .lst _ => some (.bi "list") | .slst _ => some (.bi "list") | .dic _ => some (.bi "dict")
  | .ins c _ => some (.own c) | .exc c _ => some (.xc c)
  | .mref k => match st[k]? with
    | some (.lst _) => some (.bi "list")
    | some (.ins c _) => some (.own c)
    | some (.frz (.lst _)) => some (.bi "list")
    | some (.frz (.ins c _)) => some (.own c)
    | _ => none
  | _ => none
def tyS (T : Tb) (d : D) (st : Sto) : Option Ty := match tyOf d st with
  | some (.own c) => if T.inst c = true then some (.own c) else none
  | some (.xc c) => if T.xcl c = true then some (.xc c) else none
  | r => r
section
variable {G : Gc} {X : Cx} {Wx : WX} {k n : Nat} {T : Tb} {L L' : Addr → V → Prop} {W W' W3 : Wd} {H H' H3 : Hp} {st st3 : Sto} {σ : L2.St} {pins : List (Addr × Obj)} {s : Shared} {Q : VK} {pos pos' apos : Pos} {a : Addr}
theorem InstOk.ty {C dx : Addr} {fs : List (Str × V)} (i : InstOk X.K C) (e : H a = some (.ins C dx fs)) : TyX X.K H (.ref a) (.ref C) := .base (.ins e i.cl i.ha i.hn i.htk i.hm)
theorem rd_list {vs : List V} (r : Rd H a (.lst vs)) {K : PySem.W.Frag} : TyX K H (.ref a) (.type "list") := by
  rcases r with r | ⟨o, r⟩
  · exact .base (.lst r)
  · exact .base (.frz r)
theorem ty_at (N : En G X Wx k T) {x : V} {d : D} {t : Ty} (w : WOk G L W H st) (r : Rep G W H x d) (e : tyS T d st = some t) (hx : ∀ c, t ≠ .xc c) : TyX X.K H x (t.val G) := by
  unfold tyS at e
  split at e
  · rename_i c hc
    split at e
    · rename_i hi
      cases e
      have : ∃ gs, clsOf d st = some (c, gs) := by
        unfold tyOf at hc
        unfold clsOf
        split at hc
        all_goals first | (cases hc; done) | skip
        · cases hc; exact ⟨_, rfl⟩
        · split at hc
          all_goals first | (cases hc; done) | skip
          · cases hc; rename_i q; simp only [q]; exact ⟨_, rfl⟩
          · cases hc; rename_i q; simp only [q]; exact ⟨_, rfl⟩
      obtain ⟨gs, hg⟩ := this
      obtain ⟨a, dx, fs, rfl, ea, _⟩ := ins_at w r hg
      exact (N.ins c hi).ty ea
    · cases e
  · rename_i c hc
    split at e
    · cases e
      exact absurd rfl (hx c)
    · cases e
  · rename_i h1 h2
    unfold tyOf at e
    split at e
    · cases e; cases r; exact .base .non
    · cases e; cases r; exact .base (.bl _)
    · cases e; cases r; exact .base (.int _)
    · cases e; cases r; exact .base (.str _)
    · cases e; cases r with
      | tup f h r => exact .base (.tup h)
    · cases e; cases r with
      | lst f h r => exact .base (.lst h)
    · cases e; cases r with
      | slst f h r => exact rd_list h
    · cases e; cases r with
      | dic f h r => exact .base (.dK h)
    · cases e; exact absurd rfl (h1 _)
    · cases e; exact absurd rfl (h2 _)
    · rename_i kk _
      cases r with
      | mref hk =>
        obtain ⟨m, e1, r1⟩ := w.mu_at hk
        rw [e1] at e
        split at e
        · rename_i q
          cases q; cases e
          obtain ⟨_, vs, h, _⟩ := r1
          exact .base (.lst h)
        · rename_i q
          cases q; cases e
          exact (h1 _ (by unfold tyOf; simp only [e1]; rfl)).elim
        · rename_i q
          cases q; cases e
          cases r1.2 with
          | lst f h r => exact .base (.lst h)
        · rename_i q
          cases q; cases e
          exact (h1 _ (by unfold tyOf; simp only [e1]; rfl)).elim
        · cases e
    · cases e
/-! ### isinstance -/
theorem kit_S (N : En G X Wx k T) {x : V} {u : Value} {d : D} {t : Ty} (I : Inv X pins σ H s) (rx : RelV x u) (w : WOk G L W H st) (r : Rep G W H x d) (e : tyS T d st = some t) :
    ∃ P : Heap → Prop, PySem.W.KitX X.K u (t.val G) P ∧ P s.heap ∧ u ≠ .builtin "__main__.__loader__#opaque" := by
  by_cases hx : ∃ c, t = .xc c
  · obtain ⟨c, rfl⟩ := hx
    unfold tyS at e
    split at e
    · split at e <;> cases e
    · rename_i c' hc
      split at e
      · rename_i hi
        cases e
        have C := N.exo c hi
        have hcl : (PySem.W.clsIn X.K (G.ga c)).isSome = true := by
          obtain ⟨cd, hc, _⟩ := PySem.W.any_some C.hd
          rw [hc]
          rfl
        unfold tyOf at hc
        split at hc
        all_goals first | (cases hc; done) | skip
        · cases hc
          cases r with
          | @exc a dd _ fs _ f1 f2 ha hd rf =>
            obtain rfl : u = Value.ref a := rx
            obtain ⟨oe, ha, hz, vs, hdd⟩ := exk_at I.hok ha
            obtain ⟨mA, hns, hr⟩ := (show ObjOk X.prog X.w H s.heap dd (.xd fs) from I.hok dd _ hd)
            obtain ⟨od, ho, hl⟩ := lookIn_ns hns
            exact ⟨_, PySem.W.kitx_exc hcl C.hg C.hk C.hs C.ha C.hn C.ht C.hm, (show PySem.W.InstAt s.heap a oe (G.ga c) (some od) from ⟨ha, hz.1, by unfold PySem.W.notCls; rw [hdd] <;> rfl, by rw [hz.2]; exact ho⟩), fun z => nomatch z⟩
          | @exc0 a _ f1 ha =>
            obtain rfl : u = Value.ref a := rx
            obtain ⟨oe, ha, hz, vs, hdd⟩ := exk_at I.hok ha
            exact ⟨_, PySem.W.kitx_exc hcl C.hg C.hk C.hs C.ha C.hn C.ht C.hm, (show PySem.W.InstAt s.heap a oe (G.ga c) none from ⟨ha, hz.1, by unfold PySem.W.notCls; rw [hdd] <;> rfl, by rw [hz.2]; trivial⟩), fun z => nomatch z⟩
        · split at hc <;> cases hc
      · cases e
    · rename_i h1 h2
      exact absurd e (h2 c)
  · exact kit_of I rx (ty_at N w r e fun c z => hx ⟨c, z⟩)
def clsD : D → Option Ty
  | .ty n => some (.bi n)
  | .glo c => some (.own c)
  | _ => none
def kitM (T : Tb) (a b : Ty) : Option Bool := match a, b with
  | .bi a, .bi b => kitB a b
  | a, b => T.kit a b
theorem kit_M (N : En G X Wx k T) {a b : Ty} {r : Bool} (h : kitM T a b = some r) : PySem.W.kitOne X.K (a.val G) (b.val G) = some r := by
  unfold kitM at h
  split at h
  · exact kit_ty h
  · exact N.kit _ _ _ h
def kitAnyM (T : Tb) (t : Ty) : List D → Option Bool
  | [] => some false
  | c :: cs => match clsD c with
    | none => none
    | some c => match kitM T t c with
      | some true => some true
      | some false => kitAnyM T t cs
      | none => none
theorem cls_V {v : V} {d : D} {t : Ty} (r : Rep G W H v d) (e : clsD d = some t) : ClsV v (t.val G) := by
  unfold clsD at e
  split at e
  · cases e; cases r; exact .ty _
  · cases e; cases r; exact .own _
  · cases e
def allCls : List D → Bool
  | [] => true
  | c :: cs => (clsD c).isSome && allCls cs
theorem cls_Vs : ∀ {ds : List D} {vs : List V}, RepL G W H vs ds → allCls ds = true → ∃ us, Paired ClsV vs us ∧ us = ds.map fun d => ((clsD d).getD (.bi "")).val G
  | _, _, .nil, _ => ⟨[], .nil, rfl⟩
  | _, _, .cons h r, e => by
    obtain ⟨e1, e2⟩ := band e
    obtain ⟨us, h1, h2⟩ := cls_Vs r e2
    obtain ⟨t, ht⟩ := Option.isSome_iff_exists.mp e1
    exact ⟨_, .cons (cls_V h ht) h1, by rw [List.map_cons, ht, h2]; rfl⟩
theorem kit_any (N : En G X Wx k T) {t : Ty} : ∀ {ds : List D} {r : Bool}, kitAnyM T t ds = some r → PySem.W.kitAny X.K (t.val G) (ds.map fun d => ((clsD d).getD (.bi "")).val G) = some r
  | [], r, h => by cases h; rfl
  | c :: cs, r, h => by
    unfold kitAnyM at h
    split at h
    · cases h
    · rename_i c' hc
      rw [List.map_cons, hc]
      split at h
      · rename_i hk
        cases h
        exact kitAny_cons (kit_M N hk) (fun z => nomatch z) fun _ => rfl
      · rename_i hk
        exact kitAny_cons (kit_M N hk) (fun _ => kit_any N h) fun z => nomatch z
      · cases h
def mIsi (T : Tb) (ds : List D) : MM D := fun st => match ds with
  | [x, .tup cs] => match tyS T x st with
    | some t => if allCls cs = true then match kitAnyM T t cs with
        | some b => .ok (.bl b) st
        | none => .bad
      else .bad
    | none => .bad
  | [x, c] => match tyS T x st, clsD c with
    | some t, some c => match kitM T t c with
      | some b => .ok (.bl b) st
      | none => .bad
    | _, _ => .bad
  | _ => .bad
theorem call_isS (N : En G X Wx k T) : CallS G X Wx (.builtin "isinstance") (mIsi T) := by
  intro pins s σ H xs us Q L W st ds I rx hL w rl h
  unfold mIsi at h
  split at h
  · rename_i x cs
    split at h
    · rename_i t ht
      split at h
      · rename_i hall
        split at h
        · rename_i b hb
          cases rl with
          | cons r1 rr =>
            cases rr with
            | cons r2 rr =>
              cases rr
              cases rx with
              | cons v1 vv =>
                cases vv with
                | cons v2 vv =>
                  cases vv
                  obtain ⟨P, Z, p, hx⟩ := kit_S N I v1 w r1 ht
                  cases r2 with
                  | @tup a vs _ f hT rc =>
                    obtain ⟨ws, hp, hw⟩ := cls_Vs rc hall
                    rename_i u1 _ _ _ u2
                    obtain rfl : u2 = Value.ref a := v2
                    obtain ⟨_, its, rv, o, h1, h2, n, h3⟩ := (show ObjOk X.prog X.w H s.heap a (.tup vs) from I.hok a _ hT)
                    have e3 := ClsV.all hp rv
                    subst e3
                    obtain ⟨oc, od, dt, sl⟩ := o
                    simp only at h2 h3
                    subst h2 h3
                    have hk := kit_any N hb
                    rw [← hw] at hk
                    exact PySem.W.kia_tup Z I.kIn p h1 hk hx fun tk => ⟨.bl b, H, I.tok tk, rfl, h.same w (.bl b)⟩
        · exact False.elim h
      · exact False.elim h
    · exact False.elim h
  · rename_i x c _
    split at h
    · rename_i t c' ht hc
      split at h
      · rename_i b hb
        cases rl with
        | cons r1 rr =>
          cases rr with
          | cons r2 rr =>
            cases rr
            cases rx with
            | cons v1 vv =>
              cases vv with
              | cons v2 vv =>
                cases vv
                obtain ⟨P, Z, p, hx⟩ := kit_S N I v1 w r1 ht
                have cv := cls_V r2 hc
                have hu := kit_M N hb
                generalize c'.val G = cw at cv hu
                cases cv with
                | ty n =>
                  cases v2
                  exact PySem.W.kia_one Z I.kIn p hu hx fun tk => ⟨.bl b, H, I.tok tk, rfl, h.same w (.bl b)⟩
                | own C =>
                  cases v2
                  exact PySem.W.kia_one Z I.kIn p hu hx fun tk => ⟨.bl b, H, I.tok tk, rfl, h.same w (.bl b)⟩
      · exact False.elim h
    · exact False.elim h
  · exact False.elim h
end
end MP
set_option Elab.async false
set_option linter.all false
set_option maxRecDepth 100000
set_option maxHeartbeats 2000000
namespace MP
open PySem PySem.Spec PyProof.Rows L2 SP
/-! ### x op y by x's own def: the sign's first step -/
section
variable {prog : Program} {w : World} {A : Around} {E : Value → Shared → Prop} {s : Shared} {K : PySem.W.Frag} {x C C' f : Addr} {ox : Obj} {od : Option Obj} {L : Addr} {h₀ : Heap} {m : Str → Option Value}
theorem bin1_left {T : String} {op : Operator} {b : Value} {fr : Bool} {y r : Option Value} {Q : Value → Shared → Prop} (X : K.In s.heap) (I : PySem.W.InstAt s.heap x ox C od) (hb : PySem.W.Looks (model prog w) s.heap (typeOf b) (.type T)) (hc : PySem.W.selfFirst K C = true)
    (hs : PySem.W.findIn K (.ref C) (PySem.dunder op.info.2) = some (some (.ref f))) (hf : PySem.W.isFn K (.ref f) = true) (hr : PySem.W.findIn K (.ref C) (PySem.dunderR op.info.2) = some r) (hro : ∀ id, r ≠ some (.builtin id))
    (hfill : fillsNumberSlot (.type T) op.info.2 = pure fr) (hsub : PySem.W.subIn K (.type T) (.ref C) = some false) (hlk : typeLookup (.type T) (PySem.dunderR op.info.2) = pure y)
    (h : wpAny (model prog w) A (call (.ref f) [.ref x, b]) (PySem.W.CmpBack Q) E s) : wpAny (model prog w) A (binaryOp1 op.info.2 (.ref x) b) (fun r s' => ∃ v, r = some v ∧ Q v s') E s := by
  obtain ⟨cd, hcd, hm⟩ := PySem.W.any_some hc
  obtain ⟨rest, hm⟩ : ∃ rest, cd.mro = .ref C :: rest := by
    cases q : cd.mro with
    | nil => rw [q] at hm; cases hm
    | cons a r => rw [q] at hm; exact ⟨r, by rw [List.head?_cons] at hm; cases (beq_iff_eq.mp hm); rfl⟩
  have fin : wpAny (model prog w) A (tryMethod (.ref x) (PySem.dunder op.info.2) b) (fun r s' => ∃ v, r = some v ∧ Q v s') E s := by
    unfold tryMethod
    refine wpAny_bind (PySem.W.special_fn X I hs (beq_iff_eq.mp hf) (wpAny_mono h (fun v s' hv => ?_) fun _ _ e => e))
    cases v <;> first | exact hv.elim | exact wpAny_pure ⟨_, rfl, hv⟩
  unfold binaryOp1
  refine wpAny_bind (I.type.here (wpAny_bind (hb.here (wpAny_bind ((PySem.W.fills_K X hcd hm hs).here ?_)))))
  rw [show (Value.ref C == Value.type T) = false from rfl]
  simp only [Bool.false_eq_true, if_false]
  refine wpAny_bind (wpAny_of_eq hfill ?_)
  cases fr with
  | false =>
    simp only [Bool.and_false, Bool.false_eq_true, if_false, Bool.true_and, Bool.false_and]
    refine wpAny_bind (wpAny_pure ?_)
    simp only [Bool.false_eq_true, if_false, if_true]
    refine wpAny_bind (wpAny_mono fin (fun r s' z => ?_) fun _ _ e => e)
    obtain ⟨v, rfl, hq⟩ := z
    exact wpAny_pure ⟨v, rfl, hq⟩
  | true =>
    simp only [Bool.and_self, if_true, Bool.true_and]
    refine wpAny_bind ((PySem.W.looks_subIn X hsub).here ?_)
    simp only [Bool.false_eq_true, if_false, Bool.not_false, Bool.and_self, if_true]
    refine wpAny_bind ((slotpy_K X hs hr hro).here ?_)
    simp only [if_true]
    refine wpAny_bind (wpAny_of_eq (show numberSlotInPython (.type T) op.info.2 = pure false from rfl) ?_)
    simp only [Bool.not_false, if_true]
    refine wpAny_bind (wpAny_of_eq hlk ?_)
    refine wpAny_bind (wpAny_mono fin (fun r s' z => ?_) fun _ _ e => e)
    obtain ⟨v, rfl, hq⟩ := z
    exact wpAny_pure ⟨v, rfl, hq⟩
theorem bin1_K {op : Operator} {b : Value} {Q : Value → Shared → Prop} (X : K.In s.heap) (I : PySem.W.InstAt s.heap x ox C od) (hb : PySem.W.Looks (model prog w) s.heap (typeOf b) (.ref C)) (hc : PySem.W.selfFirst K C = true)
    (hs : PySem.W.findIn K (.ref C) (PySem.dunder op.info.2) = some (some (.ref f))) (hf : PySem.W.isFn K (.ref f) = true)
    (h : wpAny (model prog w) A (call (.ref f) [.ref x, b]) (PySem.W.CmpBack Q) E s) : wpAny (model prog w) A (binaryOp1 op.info.2 (.ref x) b) (fun r s' => ∃ v, r = some v ∧ Q v s') E s := by
  obtain ⟨cd, hcd, hm⟩ := PySem.W.any_some hc
  obtain ⟨rest, hm⟩ : ∃ rest, cd.mro = .ref C :: rest := by
    cases q : cd.mro with
    | nil => rw [q] at hm; cases hm
    | cons a r => rw [q] at hm; exact ⟨r, by rw [List.head?_cons] at hm; cases (beq_iff_eq.mp hm); rfl⟩
  unfold binaryOp1
  refine wpAny_bind (I.type.here (wpAny_bind (hb.here (wpAny_bind ((PySem.W.fills_K X hcd hm hs).here ?_)))))
  simp only [beq_self_eq_true, if_true]
  refine wpAny_bind (wpAny_pure ?_)
  simp only [Bool.and_false, Bool.false_eq_true, if_false, Bool.false_and]
  refine wpAny_bind (wpAny_pure ?_)
  simp only [Bool.false_eq_true, if_false]
  refine wpAny_bind (m := tryMethod (.ref x) _ b) ?_
  unfold tryMethod
  refine wpAny_bind (PySem.W.special_fn X I hs (beq_iff_eq.mp hf) (wpAny_mono h (fun v s' hv => ?_) fun _ _ e => e))
  cases v <;> first | exact hv.elim | exact wpAny_pure (wpAny_pure ⟨_, rfl, hv⟩)
theorem sub_m2 (h : mro2 K C' = true) (hne : C ≠ C') : PySem.W.subIn K (.ref C') (.ref C) = some false := by
  obtain ⟨cd, hc, hm⟩ := PySem.W.any_some h
  have hm : cd.mro = [.ref C', .type "object"] := beq_iff_eq.mp hm
  show PySem.W.mroIn K C' (.ref C) = some false
  unfold PySem.W.mroIn
  rw [hc, Option.bind_some, hm]
  have e : (Value.ref C == Value.ref C') = false := by
    rw [beq_eq_false_iff_ne]
    intro e
    cases e
    exact hne rfl
  have e2 : (Value.ref C == Value.type "object") = false := by
    rw [beq_eq_false_iff_ne]
    intro e
    cases e
  simp [List.contains, List.elem, e, e2]
theorem fillsN_no {M : Model} {h : Heap} {nm : String} (X : K.In h) (h2 : mro2 K C' = true) (h1 : PySem.W.findIn K (.ref C') (PySem.dunder nm) = some none) (hr : PySem.W.findIn K (.ref C') (PySem.dunderR nm) = some none)
    (o1 : typeLookup (.type "object") (PySem.dunder nm) = pure none) (o2 : typeLookup (.type "object") (PySem.dunderR nm) = pure none) : PySem.W.Looks M h (fillsNumberSlot (.ref C') nm) false := by
  obtain ⟨cd, hc, hm⟩ := PySem.W.any_some h2
  have hm : cd.mro = [.ref C', .type "object"] := beq_iff_eq.mp hm
  intro A Q E s k q
  unfold fillsNumberSlot
  refine wpAny_bind ((PySem.W.looks_clsIn X hc).andThen (f := fun cd => pure cd.mro) .now A _ E s k ?_)
  rw [hm, List.anyM_cons]
  refine wpAny_bind ?_
  show wpAny M A (List.anyM _ [PySem.dunder nm, PySem.dunderR nm]) _ _ _
  rw [List.anyM_cons]
  refine wpAny_bind (wpAny_bind (PySem.W.looks_findIn X h1 A _ E s k ?_))
  dsimp only
  refine wpAny_pure ?_
  rw [if_neg (by decide), List.anyM_cons]
  refine wpAny_bind (wpAny_bind (PySem.W.looks_findIn X hr A _ E s k ?_))
  dsimp only
  refine wpAny_pure ?_
  rw [if_neg (by decide)]
  refine wpAny_pure ?_
  rw [if_neg (by decide), List.anyM_cons]
  refine wpAny_bind ?_
  show wpAny M A (do let f ← typeLookup (.type "object") (PySem.dunder nm); let r ← typeLookup (.type "object") (PySem.dunderR nm); return (f.isSome && !isSeqSlot f) || (r.isSome && !isSeqSlot r)) _ _ _
  refine wpAny_bind (wpAny_of_eq o1 (wpAny_bind (wpAny_of_eq o2 (wpAny_pure ?_))))
  rw [if_neg (by decide)]
  exact wpAny_pure q
/-- what y's class has of the sign -/
def Side (K : PySem.W.Frag) (C' : Addr) (nm : String) : Prop :=
  (PySem.W.findIn K (.ref C') (PySem.dunder nm) = some none ∧ PySem.W.findIn K (.ref C') (PySem.dunderR nm) = some none ∧ typeLookup (.type "object") (PySem.dunder nm) = pure none ∧ typeLookup (.type "object") (PySem.dunderR nm) = pure none) ∨
  (∃ (g : Addr) (r' : Option Value), PySem.W.findIn K (.ref C') (PySem.dunder nm) = some (some (.ref g)) ∧ PySem.W.findIn K (.ref C') (PySem.dunderR nm) = some r' ∧ PySem.W.selfFirst K C' = true ∧ ∀ id, r' ≠ some (.builtin id))
theorem bin1_two {op : Operator} {b : Value} {r : Option Value} {Q : Value → Shared → Prop} (X : K.In s.heap) (I : PySem.W.InstAt s.heap x ox C od) (hb : PySem.W.Looks (model prog w) s.heap (typeOf b) (.ref C')) (hne : C ≠ C') (hc : PySem.W.selfFirst K C = true) (m2 : mro2 K C' = true)
    (hs : PySem.W.findIn K (.ref C) (PySem.dunder op.info.2) = some (some (.ref f))) (hf : PySem.W.isFn K (.ref f) = true) (hr : PySem.W.findIn K (.ref C) (PySem.dunderR op.info.2) = some r) (hro : ∀ id, r ≠ some (.builtin id)) (sd : Side K C' op.info.2)
    (h : wpAny (model prog w) A (call (.ref f) [.ref x, b]) (PySem.W.CmpBack Q) E s) : wpAny (model prog w) A (binaryOp1 op.info.2 (.ref x) b) (fun r s' => ∃ v, r = some v ∧ Q v s') E s := by
  obtain ⟨cd, hcd, hm⟩ := PySem.W.any_some hc
  obtain ⟨rest, hm⟩ : ∃ rest, cd.mro = .ref C :: rest := by
    cases q : cd.mro with
    | nil => rw [q] at hm; cases hm
    | cons a r => rw [q] at hm; exact ⟨r, by rw [List.head?_cons] at hm; cases (beq_iff_eq.mp hm); rfl⟩
  have mine : wpAny (model prog w) A (tryMethod (.ref x) (PySem.dunder op.info.2) b) (fun r s' => ∃ v, r = some v ∧ Q v s') E s := by
    unfold tryMethod
    refine wpAny_bind (PySem.W.special_fn X I hs (beq_iff_eq.mp hf) (wpAny_mono h (fun v s' hv => ?_) fun _ _ e => e))
    cases v <;> first | exact hv.elim | exact wpAny_pure ⟨_, rfl, hv⟩
  have ne : (Value.ref C == Value.ref C') = false := by
    rw [beq_eq_false_iff_ne]
    intro e
    cases e
    exact hne rfl
  unfold binaryOp1
  refine wpAny_bind (I.type.here (wpAny_bind (hb.here (wpAny_bind ((PySem.W.fills_K X hcd hm hs).here ?_)))))
  rw [ne]
  simp only [Bool.false_eq_true, if_false]
  rcases sd with ⟨n1, n2, o1, o2⟩ | ⟨g, r', g1, g2, g3, g4⟩
  · refine wpAny_bind ((fillsN_no X m2 n1 n2 o1 o2).here ?_)
    simp only [Bool.and_false, Bool.false_eq_true, if_false, Bool.true_and, Bool.false_and]
    refine wpAny_bind (wpAny_pure ?_)
    simp only [Bool.false_eq_true, if_false, if_true]
    refine wpAny_bind (wpAny_mono mine (fun r s' z => ?_) fun _ _ e => e)
    obtain ⟨v, rfl, hq⟩ := z
    exact wpAny_pure ⟨v, rfl, hq⟩
  · obtain ⟨cd', hcd', hm'⟩ := PySem.W.any_some g3
    obtain ⟨rest', hm'⟩ : ∃ rest, cd'.mro = .ref C' :: rest := by
      cases q : cd'.mro with
      | nil => rw [q] at hm'; cases hm'
      | cons a r => rw [q] at hm'; exact ⟨r, by rw [List.head?_cons] at hm'; cases (beq_iff_eq.mp hm'); rfl⟩
    refine wpAny_bind ((PySem.W.fills_K X hcd' hm' g1).here ?_)
    simp only [Bool.and_self, if_true, Bool.true_and]
    refine wpAny_bind ((PySem.W.looks_subIn X (sub_m2 m2 hne)).here ?_)
    simp only [Bool.false_eq_true, if_false, Bool.not_false, Bool.and_self, if_true]
    refine wpAny_bind ((slotpy_K X hs hr hro).here ?_)
    simp only [if_true]
    refine wpAny_bind ((slotpy_K X g1 g2 g4).here ?_)
    simp only [Bool.not_true, Bool.false_eq_true, if_false]
    refine wpAny_bind (wpAny_mono mine (fun r s' z => ?_) fun _ _ e => e)
    obtain ⟨v, rfl, hq⟩ := z
    exact wpAny_pure ⟨v, rfl, hq⟩
theorem binop_of {op : Operator} {a b : Value} {Q : Value → Shared → Prop} (h : wpAny (model prog w) A (binaryOp1 op.info.2 a b) (fun r s' => ∃ v, r = some v ∧ Q v s') E s) : wpAny (model prog w) A (binaryOp op a b) Q E s := by
  unfold binaryOp
  refine wpAny_holding (wpAny_bind (wpAny_mono h (fun r s' z => ?_) fun _ _ e => e))
  obtain ⟨v, rfl, hq⟩ := z
  exact wpAny_pure hq
theorem obj_no (op : Operator) : typeLookup (.type "object") (PySem.dunder op.info.2) = pure none ∧ typeLookup (.type "object") (PySem.dunderR op.info.2) = pure none := by
  cases op <;> exact ⟨by kernel_rfl, by kernel_rfl⟩
end
end MP
set_option Elab.async false
set_option linter.all false
set_option maxRecDepth 100000
set_option maxHeartbeats 1000000
namespace MP
open PySem PySem.Spec PyProof.Rows L2 SP
/-! ### signs of own classes -/
theorem sub_bi {K : PySem.W.Frag} {C : Addr} {t : String} (h : t ∈ biT) : PySem.W.subIn K (.type t) (.ref C) = some false := by
  simp only [biT, List.mem_cons, List.not_mem_nil, or_false] at h
  rcases h with rfl | rfl | rfl | rfl | rfl | rfl | rfl <;> rfl
theorem look_ty {t : String} (h : t ∈ biT) (x : Str) : ∃ z, typeLookup (.type t) x = pure z := by
  rw [typeLookup_type, builtinLookup_eq_fast]
  simp only [biT, List.mem_cons, List.not_mem_nil, or_false] at h
  rcases h with rfl | rfl | rfl | rfl | rfl | rfl | rfl <;> exact ⟨_, rfl⟩
theorem fills_ty {t : String} (h : t ∈ biT) (nm : String) : ∃ fr, fillsNumberSlot (.type t) nm = pure fr := by
  unfold fillsNumberSlot
  obtain ⟨z, hz⟩ := look_ty h (PySem.dunder nm)
  obtain ⟨z', hz'⟩ := look_ty h (PySem.dunderR nm)
  simp only [hz, hz']
  exact ⟨_, rfl⟩
/-- a type that is no subtype of the class c, or is it -/
def nfM (T : Tb) (c : Str) : Ty → Bool
  | .bi t => decide (t ∈ biT)
  | .own c' => decide (c' = c) || T.nsub c' c
  | .xc c' => false
section
variable {G : Gc} {X : Cx} {Wx : WX} {k n : Nat} {T : Tb} {L L' : Addr → V → Prop} {W W' W3 : Wd} {H H' H3 : Hp} {st st3 : Sto} {σ : L2.St} {pins : List (Addr × Obj)} {s : Shared} {Q : VK} {pos pos' apos : Pos} {a : Addr}
theorem nf_ok (N : En G X Wx k T) {c : Str} {t : Ty} (h : nfM T c t = true) : PySem.W.notFirst X.K (G.ga c) (t.val G) = true := by
  unfold nfM at h
  split at h
  · have := sub_bi (K := X.K) (C := G.ga c) (of_decide_eq_true h)
    unfold PySem.W.notFirst
    show (_ || PySem.W.subIn X.K (.type _) _ == some false) = true
    rw [this]
    simp
  · rcases Bool.or_eq_true_iff.mp h with h | h
    · cases of_decide_eq_true h
      unfold PySem.W.notFirst Ty.val
      simp
    · have := N.nsub _ _ h
      unfold PySem.W.notFirst Ty.val
      show (_ || PySem.W.mroIn X.K _ _ == some false) = true
      rw [this]
      simp
  · cases h
/-- the def of d's class for the name nm, d's class being used by instances -/
def ownFn (T : Tb) (nm : Str) (d : D) (st : Sto) : Option (Str × Str) := match clsOf d st with
  | some (c, _) => if T.inst c = true then match T.kind c nm with
      | .fn q => some (c, q)
      | _ => none
    else none
  | none => none
theorem own_at (N : En G X Wx k T) {x : V} {d : D} {nm c q : Str} (w : WOk G L W H st) (r : Rep G W H x d) (e : ownFn T nm d st = some (c, q)) : ∃ a dx fs, x = .ref a ∧ H a = some (.ins (G.ga c) dx fs) ∧ InstOk X.K (G.ga c) ∧ Meth X.K (G.ga c) nm (G.fa q) := by
  unfold ownFn at e
  split at e
  · rename_i c' gs hc
    split at e
    · rename_i hi
      split at e
      · rename_i q' hk
        cases e
        obtain ⟨a, dx, fs, rfl, ea, _⟩ := ins_at w r hc
        have K := N.kd c nm
        rw [hk] at K
        exact ⟨a, dx, fs, rfl, ea, N.ins c hi, K.2⟩
      · cases e
    · cases e
  · cases e
def Kd.rOk : Kd → Bool
  | .fn _ => true | .abs => true | _ => false
def Kd.isM2 : Kd → Bool
  | .m2 => true | _ => false
def sideK : Kd → Kd → Bool
  | .abs, .abs => true | .fn _, .fn _ => true | .fn _, .abs => true | _, _ => false
def sideM (T : Tb) (c c' : Str) (op : Operator) : Bool := (T.kind c' "$mro").isM2 && ((T.kind c (PySem.dunderR op.info.2)).rOk && sideK (T.kind c' (PySem.dunder op.info.2)) (T.kind c' (PySem.dunderR op.info.2)))
def mBin (T : Tb) (op : Operator) (d1 d2 : D) : MM D := fun st => match ownFn T (PySem.dunder op.info.2) d1 st with
  | some (c, q) => match tyS T d2 st with
    | some (.own c') => if c' = c then T.run q [d1, d2] st else if T.inst c' = true ∧ sideM T c c' op = true then T.run q [d1, d2] st else .bad
    | some (.bi t) => if t ∈ biT then match T.kind c (PySem.dunderR op.info.2) with
        | .fn _ => T.run q [d1, d2] st
        | .abs => T.run q [d1, d2] st
        | _ => .bad
      else .bad
    | _ => .bad
  | none => .bad
theorem back_S {P : VK} {w : Value} {s' : Shared} (z : EP X pins σ P w s') : PySem.W.CmpBack (EP X pins σ P) w s' := by
  obtain ⟨z', H', I', rz, qz⟩ := z
  exact SlX.cmpback rz ⟨z', H', I', rz, qz⟩
theorem bin1_side (N : En G X Wx k T) {op : Operator} {c c' q : Str} {a : Addr} {ox : Obj} {od : Option Obj} {u : Value} {Q : Value → Shared → Prop} (KX : X.K.In s.heap) (J : PySem.W.InstAt s.heap a ox (G.ga c) od) (hb : PySem.W.Looks (model X.prog X.w) s.heap (typeOf u) (.ref (G.ga c'))) (IO : InstOk X.K (G.ga c)) (M : Meth X.K (G.ga c) (PySem.dunder op.info.2) (G.fa q)) (hi : T.inst c' = true) (hsd : sideM T c c' op = true)
    (h : wpAny (model X.prog X.w) X.A (call (.ref (G.fa q)) [.ref a, u]) (PySem.W.CmpBack Q) X.xe s) : wpAny (model X.prog X.w) X.A (binaryOp1 op.info.2 (.ref a) u) (fun r s' => ∃ v, r = some v ∧ Q v s') X.xe s := by
  by_cases e : G.ga c' = G.ga c
  · rw [e] at hb
    exact bin1_K KX J hb IO.sf M.at_ M.fn h
  · obtain ⟨h1, h2⟩ := band hsd
    obtain ⟨h2, h3⟩ := band h2
    have m2 : mro2 X.K (G.ga c') = true := by
      have z := N.kd c' "$mro"
      revert h1
      generalize T.kind c' "$mro" = kk at z
      cases kk with
      | m2 => exact fun _ => z
      | _ => exact fun z => nomatch z
    obtain ⟨r, hr, hro⟩ : ∃ r, PySem.W.findIn X.K (.ref (G.ga c)) (PySem.dunderR op.info.2) = some r ∧ ∀ id, r ≠ some (.builtin id) := by
      have z := N.kd c (PySem.dunderR op.info.2)
      revert h2
      generalize T.kind c (PySem.dunderR op.info.2) = kk at z
      cases kk with
      | abs => exact fun _ => ⟨_, z.2, fun id z => nomatch z⟩
      | fn q' => exact fun _ => ⟨_, z.2.at_, fun id z => nomatch z⟩
      | _ => exact fun z => nomatch z
    refine bin1_two KX J hb (fun z => e z.symm) IO.sf m2 M.at_ M.fn hr hro ?_ h
    have z1 := N.kd c' (PySem.dunder op.info.2)
    have z2 := N.kd c' (PySem.dunderR op.info.2)
    revert h3
    generalize T.kind c' (PySem.dunder op.info.2) = k1 at z1
    generalize T.kind c' (PySem.dunderR op.info.2) = k2 at z2
    cases k1 with
    | abs => cases k2 with
      | abs => exact fun _ => .inl ⟨z1.2, z2.2, obj_no op⟩
      | _ => exact fun z => nomatch z
    | fn q1 => cases k2 with
      | abs => exact fun _ => .inr ⟨_, _, z1.2.at_, z2.2, (N.ins c' hi).sf, fun id z => nomatch z⟩
      | fn q2 => exact fun _ => .inr ⟨_, _, z1.2.at_, z2.2.at_, (N.ins c' hi).sf, fun id z => nomatch z⟩
      | _ => exact fun z => nomatch z
    | _ => exact fun z => nomatch z
theorem s_bin (N : En G X Wx k T) {op : Operator} : OpS G X Wx (binaryOp op) (mBin T op) := by
  intro pins s σ H x y v u Q L W st d1 d2 I rx ry hL w r1 r2 h
  have hr : Room k X.A := N.rm.mono (by omega)
  unfold mBin at h
  split at h
  · rename_i c q ho
    obtain ⟨a, dx, fs, rfl, ea, IO, M⟩ := own_at N w r1 ho
    obtain rfl : v = Value.ref a := rx
    obtain ⟨od, J⟩ := ins_inst I ea
    have go : ∀ (h : postE G L Wx σ W H Q (T.run q [d1, d2] st)), wpAny (model X.prog X.w) X.A (call (.ref (G.fa q)) [.ref a, u]) (PySem.W.CmpBack (EP X pins σ Q)) X.xe s := fun h =>
      wpAny_mono (wpAny_call (N.call (us := [.ref a, u]) (vs := [.ref a, y]) hr N.gd I.env0 I (.cons rfl (.cons ry .nil)) hL w (.two_ r1 r2) h)) (fun w s' z => back_S z) fun _ _ x => x
    split at h
    · rename_i c' ht
      split at h
      · rename_i hc
        subst hc
        have ty := ty_at N w r2 ht (fun _ z => nomatch z)
        obtain ⟨P, kx, hp, _⟩ := kit_of I ry ty
        obtain ⟨m, hF⟩ := I.fr
        exact PySem.W.binop_K hF I.ok.mod.kin J (kx.ty _ _ I.kIn hp) IO.sf M.at_ M.fn (go h)
      · rename_i hcc
        split at h
        · rename_i hsd
          have ty := ty_at N w r2 ht (fun _ z => nomatch z)
          obtain ⟨P, kx, hp, _⟩ := kit_of I ry ty
          exact binop_of (bin1_side N I.kIn J (kx.ty _ _ I.kIn hp) IO M hsd.1 hsd.2 (go h))
        · exact False.elim h
    · rename_i t ht
      split at h
      · rename_i hb
        have ty := ty_at N w r2 ht (fun _ z => nomatch z)
        obtain ⟨P, kx, hp, _⟩ := kit_of I ry ty
        obtain ⟨fr, hfr⟩ := fills_ty hb op.info.2
        obtain ⟨zl, hzl⟩ := look_ty hb (PySem.dunderR op.info.2)
        split at h
        · rename_i q' hk
          have K := N.kd c (PySem.dunderR op.info.2)
          rw [hk] at K
          exact binop_left I.kIn J (kx.ty _ _ I.kIn hp) IO.sf M.at_ M.fn K.2.at_ (fun id z => nomatch z) hfr (sub_bi hb) hzl (go h)
        · rename_i hk
          have K := N.kd c (PySem.dunderR op.info.2)
          rw [hk] at K
          exact binop_left I.kIn J (kx.ty _ _ I.kIn hp) IO.sf M.at_ M.fn K.2 (fun id z => nomatch z) hfr (sub_bi hb) hzl (go h)
        · exact False.elim h
      · exact False.elim h
    · exact False.elim h
  · exact False.elim h
/-- i op x -/
def mBinR (T : Tb) (op : Operator) (d1 d2 : D) : MM D := fun st => match d1 with
  | .int _ => match ownFn T (PySem.dunder op.info.2) d2 st, ownFn T (PySem.dunderR op.info.2) d2 st with
    | some (_, _), some (_, q) => T.run q [d2, d1] st
    | _, _ => .bad
  | _ => .bad
theorem ownFn_cls {d : D} {nm nm' c c' q q' : Str} (h1 : ownFn T nm d st = some (c, q)) (h2 : ownFn T nm' d st = some (c', q')) : c = c' := by
  unfold ownFn at h1 h2
  cases e : clsOf d st with
  | none => rw [e] at h1; cases h1
  | some p =>
    obtain ⟨c0, gs⟩ := p
    rw [e] at h1 h2
    dsimp only at h1 h2
    split at h1
    · rename_i hi
      rw [if_pos hi] at h2
      split at h1
      · split at h2
        · cases h1; cases h2; rfl
        · cases h2
      · cases h1
    · cases h1
theorem s_binR (N : En G X Wx k T) {op : Operator} (hi : IntNot op) (hfill : fillsNumberSlot (.type "int") op.info.2 = pure true) : OpS G X Wx (binaryOp op) (mBinR T op) := by
  intro pins s σ H x y v u Q L W st d1 d2 I rx ry hL w r1 r2 h
  have hr : Room k X.A := N.rm.mono (by omega)
  unfold mBinR at h
  split at h
  · rename_i i
    split at h
    · rename_i c0 q0 c1 q1 h0 h1
      have hcc := ownFn_cls h0 h1
      subst hcc
      obtain ⟨a, dx, fs, rfl, ea, IO, M0⟩ := own_at N w r2 h0
      obtain ⟨a', dx', fs', e', ea', _, M1⟩ := own_at N w r2 h1
      cases e'
      obtain rfl : u = Value.ref a := ry
      cases rep_int r1
      obtain ⟨t, rfl⟩ := (show ∃ t, v = Value.int i t from rx)
      obtain ⟨od, J⟩ := ins_inst I ea
      refine binop_right I.kIn J IO.sf M0.at_ M1.at_ M1.fn hfill (IO.nb "int" (by decide)) (fun q => hi _ _ _ _ _ _ _ _ _ _ J.at_ (fun p e => by cases e) q) ?_
      exact wpAny_mono (wpAny_call (N.call (us := [.ref a, .int i t]) (vs := [.ref a, .int i]) hr N.gd I.env0 I (.cons rfl (.cons ⟨t, rfl⟩ .nil)) hL w (.two_ r2 r1) h)) (fun w s' z => back_S z) fun _ _ x => x
    · exact False.elim h
  · exact False.elim h
/-
theorem intNot_floordiv : IntNot .FloorDiv := by
  intro prog w A E s x ox i t Q h hd q
  show wpAny (model prog w) A (tryMethod (.int i t) (PySem.dunder "floordiv") (.ref x)) Q E s
  unfold tryMethod
  refine wpAny_bind ?_
  with_reducible refine wpAny_callSpecial?_slot (typeIs_int s i t) PySem.F.slot_int_floordiv ?_
  with_reducible refine wpAny_call_entry PySem.F.slot_int_floordiv (typeIs_int s i t) PySem.F.entry_int_floordiv ?_ (PySem.F.args_int_floordiv_2 _ _)
  unfold Builtin.«int.__floordiv__»
  exact intBin_ref h hd ⟨_, rfl, wpAny_pure q⟩
-/
/-- x op y, a comparison by the def of x's class -/
def mCmp (T : Tb) (op : CmpOp) (d1 d2 : D) : MM D := fun st => match ownFn T (cmpInfo op).2.1 d1 st with
  | some (c, q) => match tyS T d2 st with
    | some t => if nfM T c t = true then T.run q [d1, d2] st else .bad
    | none => .bad
  | none => .bad
theorem nf_xc {c c' : Str} : nfM T c (.xc c') = true → False := fun h => nomatch h
theorem s_cmpO (N : En G X Wx k T) {op : CmpOp} (hop : ∀ a b, compareOp op a b = richCompare op a b) : OpS G X Wx (compareOp op) (mCmp T op) := by
  intro pins s σ H x y v u Q L W st d1 d2 I rx ry hL w r1 r2 h
  have hr : Room k X.A := N.rm.mono (by omega)
  unfold mCmp at h
  split at h
  · rename_i c q ho
    obtain ⟨a, dx, fs, rfl, ea, IO, M⟩ := own_at N w r1 ho
    obtain rfl : v = Value.ref a := rx
    obtain ⟨od, J⟩ := ins_inst I ea
    split at h
    · rename_i t ht
      split at h
      · rename_i hn
        have ty := ty_at N w r2 ht (fun c z => by subst z; exact nf_xc hn)
        obtain ⟨P, kx, hp, _⟩ := kit_of I ry ty
        obtain ⟨m, hF⟩ := I.fr
        rw [hop]
        refine PySem.W.cmp_K (op := op) (tb := t.val G) hr.units0 hF I.ok.mod.kin J (kx.ty _ _ I.kIn hp) (nf_ok N hn) M.at_ M.fn ?_
        exact wpAny_mono (wpAny_call (N.call (us := [.ref a, u]) (vs := [.ref a, y]) hr N.gd I.env0 I (.cons rfl (.cons ry .nil)) hL w (.two_ r1 r2) h)) (fun w s' z => back_S z) fun _ _ x => x
      · exact False.elim h
    · exact False.elim h
  · exact False.elim h
/-- x != y by x's own == -/
def mNe (T : Tb) (d1 d2 : D) : MM D := fun st => (mCmp T .Eq d1 d2 st).bind fun r st => match r with
  | .bl b => .ok (.bl (!b)) st
  | _ => .bad
theorem s_neO (N : En G X Wx k T) : OpS G X Wx (compareOp .NotEq) (mNe T) := by
  intro pins s σ H x y v u Q L W st d1 d2 I rx ry hL w r1 r2 h
  have hr1 : Room (k + 1) X.A := N.rm.mono (by omega)
  unfold mNe at h
  have h := post.bind (rel' := Rep G) h
  unfold mCmp at h
  split at h
  · rename_i c q ho
    obtain ⟨a, dx, fs, rfl, ea, IO, M⟩ := own_at N w r1 ho
    obtain rfl : v = Value.ref a := rx
    obtain ⟨od, J⟩ := ins_inst I ea
    split at h
    · rename_i t ht
      split at h
      · rename_i hn
        have ty := ty_at N w r2 ht (fun c z => by subst z; exact nf_xc hn)
        obtain ⟨P, kx, hp, _⟩ := kit_of I ry ty
        have KX := I.kIn
        have hb := kx.ty (model X.prog X.w) _ I.kIn hp
        have hu0 : X.A.units < cLine := hr1.units0
        have hu1 : X.A.in1.units < cLine := hr1.in1.units0
        have hn' := nf_ok N hn
        have one : wpAny (model X.prog X.w) X.A (tryCompare (.ref a) "__ne__" u) (fun r s' => ∃ v, r = some v ∧ EP X pins σ Q v s') X.xe s := by
          unfold tryCompare
          refine wpAny_bind (bound_builtin KX J IO.ne slot_object_ne.bind ?_)
          refine wpAny_call (codeAny_call_builtin slot_object_ne.plain PySem.F.cmpEntry_ne (PySem.W.check_slot (i := "object.__ne__") (owner := "object") (n := "__ne__") (by decide +kernel) (by decide +kernel) (J.type.andThen (PySem.W.looks_mroIn KX IO.hm)) (PySem.F.cmpArgs_ne _ _) ?_))
          unfold Builtin.«object.__ne__»
          refine wpAny_bind (m := slotArgs "__ne__" 1 _) (wpAny_pure ?_)
          refine wpAny_bind (m := cRoomFor _ _) (wpAny_cRoomFor hu1 ?_)
          refine wpAny_bind (m := callSpecialIfBound? (.ref a) (Str.ofString "__eq__") _) (PySem.W.ifBound_K KX J (show PySem.W.findIn X.K (.ref (G.ga c)) "__eq__" = _ from M.at_) M.fn ?_)
          refine wpAny_mono (wpAny_call (N.call (us := [.ref a, u]) (vs := [.ref a, y]) hr1.in1 N.gd I.env0.in1 I (.cons rfl (.cons ry .nil)) hL w (.two_ r1 r2) h)) (fun w s' z => ?_) fun _ _ x => x
          obtain ⟨z', H', I', rz, W1, st1, d, e1, w1, rd, _, q1⟩ := z
          cases d with
          | bl b =>
            cases rep_bl rd
            cases (show w = Value.bool b from rz)
            refine wpAny_bind (m := truthy (.bool b)) (wpAny_truthy_bool ?_)
            refine wpAny_pure ?_
            exact wpAny_pure ⟨_, rfl, .bl (!b), H', I', rfl, q1.same w1 (.bl _)⟩
          | _ => exact False.elim q1
        show wpAny (model X.prog X.w) X.A (richCompare .NotEq (.ref a) u) _ _ _
        unfold richCompare
        simp only [oneThing_ref]
        refine wpAny_holding (wpAny_bind (wpAny_cRoomFor hu0 ?_))
        refine wpAny_bind (J.type.here (wpAny_bind (hb.here ?_)))
        split
        · rename_i q
          have e : PySem.W.subIn X.K (t.val G) (.ref (G.ga c)) = some false := by
            rcases Bool.or_eq_true_iff.mp hn' with e | e
            · rw [beq_iff_eq.mp e] at q; simp at q
            · exact beq_iff_eq.mp e
          refine wpAny_bind ((PySem.W.looks_subIn KX e).here ?_)
          simp only [Bool.false_eq_true, if_false]
          refine wpAny_bind (wpAny_mono one (fun r s' z => ?_) fun _ _ e => e)
          obtain ⟨v, rfl, hq⟩ := z
          exact wpAny_pure hq
        · refine wpAny_bind (wpAny_pure ?_)
          simp only [Bool.false_eq_true, if_false]
          refine wpAny_bind (wpAny_mono one (fun r s' z => ?_) fun _ _ e => e)
          obtain ⟨v, rfl, hq⟩ := z
          exact wpAny_pure hq
      · exact False.elim h
    · exact False.elim h
  · exact False.elim h
/-- -x, abs(x), str(x) by x's own def -/
def mUn (T : Tb) (nm : Str) (d : D) : MM D := fun st => match ownFn T nm d st with
  | some (_, q) => T.run q [d] st
  | none => .bad
def mUnL (T : Tb) (nm : Str) (ds : List D) : MM D := fun st => match ds with
  | [d] => mUn T nm d st
  | _ => .bad
theorem s_negO (N : En G X Wx k T) : UnS G X Wx (unaryOp .USub) (mUn T "__neg__") := by
  intro pins s σ H x v Q L W st d I rx hL w r h
  have hr : Room k X.A := N.rm.mono (by omega)
  unfold mUn at h
  split at h
  · rename_i c q ho
    obtain ⟨a, dx, fs, rfl, ea, IO, M⟩ := own_at N w r ho
    obtain rfl : v = Value.ref a := rx
    obtain ⟨od, J⟩ := ins_inst I ea
    unfold unaryOp
    refine wpAny_holding ?_
    rw [show ((UnaryOp.USub == UnaryOp.Not) = false) from rfl]
    simp only [Bool.false_eq_true, if_false]
    refine wpAny_bind (PySem.W.special_fn I.kIn J M.at_ (beq_iff_eq.mp M.fn) (wpAny_mono (wpAny_call (N.call (us := [.ref a]) (vs := [.ref a]) hr N.gd I.env0 I (.cons rfl .nil) hL w (.one_ r) h)) (fun w s' z => ?_) fun _ _ x => x))
    exact wpAny_pure z
  · exact False.elim h
theorem call_absS (N : En G X Wx k T) : CallS G X Wx (.builtin "abs") (mUnL T "__abs__") := by
  intro pins s σ H xs us Q L W st ds I rx hL w rl h
  have hr : Room (k + 1) X.A := N.rm.mono (by omega)
  unfold mUnL mUn at h
  split at h
  · rename_i d
    split at h
    · rename_i c q ho
      cases rl with
      | cons r rr =>
        cases rr
        obtain ⟨u, rfl, ru⟩ := rx.one
        obtain ⟨a, dx, fs, rfl, ea, IO, M⟩ := own_at N w r ho
        obtain rfl : u = Value.ref a := ru
        obtain ⟨od, J⟩ := ins_inst I ea
        refine PySem.Calls.call_function_entry kind_abs plain_abs entry_abs (args_abs _) ?_
        unfold Builtin.«abs»
        refine wpAny_bind (m := oneArg "abs" _) (wpAny_pure ?_)
        refine wpAny_bind (m := callSpecial? (.ref a) (Str.ofString "__abs__")) (PySem.W.special_fn I.kIn J (show PySem.W.findIn X.K (.ref (G.ga c)) "__abs__" = _ from M.at_) (beq_iff_eq.mp M.fn) ?_)
        refine wpAny_mono (wpAny_call (N.call (us := [.ref a]) (vs := [.ref a]) hr.in1 N.gd I.env0.in1 I (.cons rfl .nil) hL w (.one_ r) h)) (fun w s' z => ?_) fun _ _ x => x
        exact wpAny_pure ⟨_, rfl, z⟩
    · exact False.elim h
  · exact False.elim h
/-- a text is wanted -/
def isStr (d : D) : MM D := fun st => match d with
  | .str x => .ok (.str x) st
  | _ => .bad
def mStrO (T : Tb) (ds : List D) : MM D := fun st => (mUnL T "__str__" ds st).bind isStr
theorem str_S {w : Value} {s' : Shared} (z : EP X pins σ (fun v H1 => ∃ W1 st1 d, ExtE W H W1 H1 ∧ WOk G L W1 H1 st1 ∧ Rep G W1 H1 v d ∧ True ∧ postE G L Wx σ W1 H1 Q (isStr d st1)) w s') : PySem.W.StrBack (EP X pins σ Q) w s' := by
  obtain ⟨z', H', I', rz, W1, st1, d, e1, w1, rd, _, q1⟩ := z
  cases d with
  | str y =>
    cases rep_str rd
    exact strback rz ⟨_, H', I', rz, q1.same w1 (.str _)⟩
  | _ => exact False.elim q1
theorem call_strS (N : En G X Wx k T) : CallS G X Wx (.type "str") (mStrO T) := by
  intro pins s σ H xs us Q L W st ds I rx hL w rl h
  have hr2 : Room k X.A.in1.in1 := (show Room (k + 1) X.A.in1 from Room.in1 N.rm).in1
  unfold mStrO at h
  have h := post.bind (rel' := Rep G) h
  unfold mUnL mUn at h
  split at h
  · rename_i d
    split at h
    · rename_i c q ho
      cases rl with
      | cons r rr =>
        cases rr
        obtain ⟨u, rfl, ru⟩ := rx.one
        obtain ⟨a, dx, fs, rfl, ea, IO, M⟩ := own_at N w r ho
        obtain rfl : u = Value.ref a := ru
        obtain ⟨od, J⟩ := ins_inst I ea
        refine PySem.W.kso_call hr2.units0 I.kIn J (show PySem.W.findIn X.K (.ref (G.ga c)) "__str__" = _ from M.at_) M.fn (wpAny_mono (wpAny_call (N.call (us := [.ref a]) (vs := [.ref a]) hr2 N.gd I.env0.in1.in1 I (.cons rfl .nil) hL w (.one_ r) h)) (fun w s' z => ?_) fun _ _ x => x)
        obtain ⟨z', H', I', rz, W1, st1, d, e1, w1, rd, _, q1⟩ := z
        exact str_S ⟨z', H', I', rz, W1, st1, d, e1, w1, rd, trivial, q1⟩
    · exact False.elim h
  · exact False.elim h
end
end MP
set_option Elab.async false
set_option linter.all false
set_option maxRecDepth 100000
set_option maxHeartbeats 1000000
namespace MP
open PySem PySem.Spec PyProof.Rows L2 SP
/-! ### while -/
/-- how many turns a loop may have -/
def FU : Nat := 10 ^ 12
def wTurn (c : ET) (b : SS) (rest : SS) : SS := fun n sl st => toS (c sl st) sl fun x st => if x = true then (match b n sl st with
  | .nx sl st => rest n sl st
  | .ct sl st => rest n sl st
  | .bk sl st => .nx sl st
  | r => r) else .nx sl st
def sWhileF (c : ET) (b : SS) : Nat → SS
  | 0 => fun _ _ _ => .bad
  | f + 1 => wTurn c b (sWhileF c b f)
section
variable {G : Gc} {X : Cx} {Wx : WX} {k n : Nat} {T : Tb} {L L' : Addr → V → Prop} {W W' W3 : Wd} {H H' H3 : Hp} {st st3 : Sto} {σ : L2.St} {pins : List (Addr × Obj)} {s : Shared} {Q : VK} {pos pos' apos : Pos} {a : Addr} {Z : Ends}
/-- behind a turn's body -/
theorem turn_S {r : SR} {sl : Sl} {rest : SS} {N : L2.St → Hp → Prop} (hl : n ≤ W.mu.length) (h : postS G X Wx n W H Z (match r with
  | .nx sl st => rest n sl st
  | .ct sl st => rest n sl st
  | .bk sl st => .nx sl st
  | r => r)) (hN : ∀ σ' H' W' sl' st', n ≤ W'.mu.length → WOk G (LX X sl'.lk σ') W' H' st' → RepS G W' H' σ' sl' → postS G X Wx n W' H' Z (rest n sl' st') → N σ' H') : postS G X Wx n W H { Z with nx := N, ct := N, bk := Z.nx } r := by
  cases r with
  | nx sl' st' => exact fun σ' H' W' e w rs => hN σ' H' W' sl' st' (Nat.le_trans hl e.len) w rs (h.after e hl)
  | ct sl' st' => exact fun σ' H' W' e w rs => hN σ' H' W' sl' st' (Nat.le_trans hl e.len) w rs (h.after e hl)
  | bk sl' st' => exact h
  | rt d st' => exact h
  | exc e sl' st' => exact h
  | bad => exact h
theorem ev_while {c : Expr} {body : List Stmt} {tc : ET} {mb : SS} (hp : PassesOwn (model X.prog X.w) X.A X.env X.xe) (hc : EvT G X Wx c tc) (hb : EvSs G X Wx body mb) {f : Nat} : EvS G X Wx (.While c body [] pos) (sWhileF tc mb f) := by
  refine PS.imp (ps_while hp hc hb) fun Z σ H ⟨n, W, st, sl, hl, w, rs, h⟩ => ?_
  refine ⟨fun m σ H => ∃ W st sl, n ≤ W.mu.length ∧ WOk G (LX X sl.lk σ) W H st ∧ RepS G W H σ sl ∧ postS G X Wx n W H Z (sWhileF tc mb m n sl st), ⟨f, W, st, sl, hl, w, rs, h⟩, fun m σ H ⟨W, st, sl, hl, w, rs, h⟩ => ?_⟩
  cases m with
  | zero => exact False.elim h
  | succ m =>
    refine tG_imp (oneS (rel := relT) hl w rs h) fun b H1 ⟨W1, st1, d, hl1, e1, w1, rs1, r, _, q⟩ => ?_
    cases r
    cases b with
    | true =>
      rw [if_pos rfl] at q ⊢
      exact ⟨fun σ' H' => ∃ W st sl, n ≤ W.mu.length ∧ WOk G (LX X sl.lk σ') W H' st ∧ RepS G W H' σ' sl ∧ postS G X Wx n W H' Z (sWhileF tc mb m n sl st), fun σ' H' z => ⟨m, Nat.lt_succ_self m, z⟩, n, W1, st1, sl, hl1, w1, rs1,
        turn_S (sl := sl) hl1 q fun σ' H' W' sl' st' a1 a2 a3 a4 => ⟨W', st', sl', a1, a2, a3, a4⟩⟩
    | false => exact q σ H1 W1 Ext.refl w1 rs1
/-! ### targets -/
abbrev SG := D → SS
def tTg (G : Gc) (X : Cx) (Wx : WX) (m : SG) : TG := fun v σ H Q => ∃ n W st sl d, n ≤ W.mu.length ∧ WOk G (LX X sl.lk σ) W H st ∧ RepS G W H σ sl ∧ Rep G W H v d ∧ postS G X (fun _ _ _ _ => False) n W H { nx := Q, rt := fun _ _ => False } (m d n sl st)
abbrev EvG (G : Gc) (X : Cx) (Wx : WX) (tg : Expr) (m : SG) : Prop := PG X tg (tTg G X Wx m)
abbrev SGs := List D → SS
def tTgs (G : Gc) (X : Cx) (Wx : WX) (m : SGs) : TGs := fun vs σ H Q => ∃ n W st sl ds, n ≤ W.mu.length ∧ WOk G (LX X sl.lk σ) W H st ∧ RepS G W H σ sl ∧ RepL G W H vs ds ∧ postS G X (fun _ _ _ _ => False) n W H { nx := Q, rt := fun _ _ => False } (m ds n sl st)
abbrev EvGs (G : Gc) (X : Cx) (Wx : WX) (tg : List Expr) (m : SGs) : Prop := PGs X tg (tTgs G X Wx m)
theorem PG.imp {tg : Expr} {t t' : TG} (h : PG X tg t) (k : ∀ v σ H Q, t' v σ H Q → t v σ H Q) : PG X tg t' := ⟨fun pins s σ H v u Q I r q => h.run pins s σ H v u Q I r (k v σ H Q q)⟩
def gN (i : Nat) : SG := fun d _ sl st => .nx (sl.set i d) st
def gT (m : SGs) : SG := fun d n sl st => match d with
  | .tup ds => m ds n sl st
  | d => match seqOf d st with
    | some ds => m ds n sl st
    | none => .bad
def gNil : SGs := fun ds _ sl st => match ds with
  | [] => .nx sl st
  | _ => .bad
def gC (m : SG) (ms : SGs) : SGs := fun ds n sl st => match ds with
  | d :: ds => (match m d n sl st with
    | .nx sl st => ms ds n sl st
    | _ => .bad)
  | [] => .bad
theorem eg_name {i : Nat} {x : Str} (hN : X.N.Nodup) (hi : X.N[i]? = some x) (hx : Loc X.env.scope x) (hf : X.fn x = true ∨ X.env.scope.names.lookup x = some .local := by first | exact .inl rfl | exact .inr rfl | assumption) : EvG G X Wx (.Name x pos) (gN i) :=
  PG.imp (pg_name hN hi hx hf) fun v σ H Q ⟨n, W, st, sl, d, hl, w, rs, r, h⟩ => h _ H W Ext.refl (show WOk G (LX X sl.lk (σ.set i (some v))) W H st from w.sig rs) (rs.set r)
theorem egs_nil : EvGs G X Wx [] gNil := by
  refine ⟨fun pins s σ H vs us Q I r ⟨n, W, st, sl, ds, hl, w, rs, rl, h⟩ => ?_⟩
  cases rl with
  | nil => exact pgs_nil.run pins s σ H [] us Q I r ⟨rfl, h σ H W Ext.refl w rs⟩
  | cons _ _ => exact False.elim h
end
end MP
set_option Elab.async false
set_option linter.all false
set_option maxRecDepth 100000
set_option maxHeartbeats 1000000
namespace MP
open PySem PySem.Spec PyProof.Rows L2 SP
section
variable {G : Gc} {X : Cx} {Wx : WX} {k n : Nat} {T : Tb} {L L' : Addr → V → Prop} {W W' W3 : Wd} {H H' H3 : Hp} {st st3 : Sto} {σ : L2.St} {pins : List (Addr × Obj)} {s : Shared} {Q : VK} {pos pos' apos : Pos} {a : Addr} {Z : Ends}
/-- behind a target -/
theorem tg_S {r : SR} {R : Sl → Sto → SR} (hl : n ≤ W.mu.length) (h : postS G X Wx n W H Z (match r with
  | .nx sl st => R sl st
  | _ => .bad)) : postS G X (fun _ _ _ _ => False) n W H { nx := fun σ2 H2 => ∃ W2 sl2 st2, n ≤ W2.mu.length ∧ Ext n W H W2 H2 ∧ WOk G (LX X sl2.lk σ2) W2 H2 st2 ∧ RepS G W2 H2 σ2 sl2 ∧ r = .nx sl2 st2 ∧ postS G X Wx n W2 H2 Z (R sl2 st2), rt := fun _ _ => False } r := by
  cases r with
  | nx sl st => exact fun σ2 H2 W2 e w rs => ⟨W2, sl, st, Nat.le_trans hl e.len, e, w, rs, rfl, h.after e hl⟩
  | rt d st => exact False.elim h
  | bk sl st => exact False.elim h
  | ct sl st => exact False.elim h
  | exc e sl st => exact False.elim h
  | bad => exact False.elim h
theorem postS.impN {r : SR} {Z Z' : Ends} (h : postS G X (fun _ _ _ _ => False) n W H Z r) (k : ∀ σ H, Z.nx σ H → Z'.nx σ H) (kr : ∀ v H, ¬ Z.rt v H) (kb : ∀ σ H, ¬ Z.bk σ H) (kc : ∀ σ H, ¬ Z.ct σ H) : postS G X (fun _ _ _ _ => False) n W H Z' r := by
  cases r with
  | nx sl st => exact fun σ H' W' e w rs => k _ _ (h σ H' W' e w rs)
  | rt d st => exact fun v H' W' e w rs => absurd (h v H' W' e w rs) (kr _ _)
  | bk sl st => exact fun σ H' W' e w rs => absurd (h σ H' W' e w rs) (kb _ _)
  | ct sl st => exact fun σ H' W' e w rs => absurd (h σ H' W' e w rs) (kc _ _)
  | exc e sl st => exact h
  | bad => exact h
theorem tg_Q {r : SR} {P : L2.St → Hp → Prop} {Q : L2.St → Hp → Prop} (h : postS G X (fun _ _ _ _ => False) n W H { nx := P, rt := fun _ _ => False } r) (k : ∀ σ H, P σ H → Q σ H) : postS G X (fun _ _ _ _ => False) n W H { nx := Q, rt := fun _ _ => False } r :=
  h.impN k (fun _ _ z => z) (fun _ _ z => z) (fun _ _ z => z)
theorem egs_cons {e : Expr} {es : List Expr} {m : SG} {ms : SGs} (h1 : EvG G X Wx e m) (h2 : EvGs G X Wx es ms) (hs : (assignEach (e :: es) X.env).map (·.2) = assign e X.env :: (assignEach es X.env).map (·.2) := by rfl) : EvGs G X Wx (e :: es) (gC m ms) := by
  refine ⟨fun pins s σ H vs us Q I r ⟨n, W, st, sl, ds, hl, w, rs, rl, h⟩ => ?_⟩
  cases rl with
  | nil => exact False.elim h
  | cons rd rl =>
    refine (pgs_cons h1 h2 hs).run pins s σ H _ us Q I r ⟨_, _, rfl, n, W, st, sl, _, hl, w, rs, rd, ?_⟩
    exact tg_Q (tg_S hl h) fun σ2 H2 ⟨W2, sl2, st2, hl2, e2, w2, rs2, _, h2⟩ => ⟨n, W2, st2, sl2, _, hl2, w2, rs2, rl.see e2.sees, h2⟩
theorem pg_tl {tg : Expr} {t u : TG} (h1 : PG X tg t) (h2 : PG X tg u) : PG X tg (fun v σ H Q => t v σ H Q ∨ u v σ H Q) :=
  ⟨fun pins s σ H v w Q I r hw => hw.elim (fun z => h1.run pins s σ H v w Q I r z) fun z => h2.run pins s σ H v w Q I r z⟩
theorem eg_tup {es : List Expr} {kk : Nat} {ms : SGs} {nn : Nat} (hc : X.calm = true) (h : EvGs G X Wx es ms) (hlen : ∀ ds n sl st, ds.length ≠ nn → ms ds n sl st = .bad)
    (hn : (assignEach es X.env).length = nn := by rfl) (hst : (assignEach es X.env).findIdx? (·.1) = none := by rfl) : EvG G X Wx (.Tuple es kk pos) (gT ms) :=
  PG.imp (pg_tl (pg_tup hc h hn hst) (pg_lst hc h hn hst)) fun v σ H Q ⟨n, W, st, sl, d, hl, w, rs, r, h⟩ => by
    have key : ∀ ds, postS G X (fun _ _ _ _ => False) n W H { nx := Q, rt := fun _ _ => False } (ms ds n sl st) → ds.length = nn := fun ds h => by
      by_cases q : ds.length = nn
      · exact q
      · rw [hlen ds n sl st q] at h
        exact False.elim h
    replace h : postS G X (fun _ _ _ _ => False) n W H { nx := Q, rt := fun _ _ => False } (gT ms d n sl st) := h
    unfold gT at h
    split at h
    · obtain ⟨a, vs, rfl, ha, rl⟩ := tup_at r
      exact .inl ⟨a, vs, rfl, SqT.of ha, by rw [rl.len]; exact key _ h, n, W, st, sl, _, hl, w, rs, rl, h⟩
    · split at h
      · rename_i e1
        obtain ⟨a, vs, rfl, ha, rl⟩ := seq_at w r e1
        exact .inr ⟨a, vs, rfl, SqL.of ha, by rw [rl.len]; exact key _ h, n, W, st, sl, _, hl, w, rs, rl, h⟩
      · exact False.elim h
theorem gC_len {m : SG} {ms : SGs} {nn : Nat} (h : ∀ ds n sl st, ds.length ≠ nn → ms ds n sl st = .bad) : ∀ ds n sl st, ds.length ≠ nn + 1 → gC m ms ds n sl st = .bad := by
  intro ds n sl st hd
  cases ds with
  | nil => rfl
  | cons d ds =>
    unfold gC
    dsimp only
    split
    · exact h _ _ _ _ (by simpa using hd)
    · rfl
theorem gNil_len : ∀ ds n sl st, ds.length ≠ 0 → gNil ds n sl st = .bad := by
  intro ds n sl st hd
  cases ds with
  | nil => exact absurd rfl hd
  | cons d ds => rfl
/-! ### tg = e -/
def sAsg (m : EE) (g : SG) : SS := fun n sl st => toS (m sl st) sl fun d st => match g d n sl st with
  | .nx sl st => .nx sl st
  | _ => .bad
theorem ev_asg {tg e : Expr} {me : EE} {g : SG} (he : EvE G X Wx e me) (hg : EvG G X Wx tg g) (hs : swapsWithSole [tg] e pos.line X.env = pure false := by rfl) (hw : swappedStores [tg] e X.env = pure none := by rfl)
    (h1 : (assignEach [tg] X.env).map (·.2) = [assign tg X.env] := by rfl) : EvS G X Wx (.Assign [tg] e pos) (sAsg me g) :=
  PS.imp (ps_asg he hg hs hw h1) fun Z σ H ⟨n, W, st, sl, hl, w, rs, h⟩ => tG_imp (oneS (rel := Rep G) hl w rs h) fun x H1 ⟨W1, st1, d, hl1, e1, w1, rs1, r, _, q⟩ =>
    ⟨n, W1, st1, sl, d, hl1, w1, rs1, r, tg_Q (tg_S hl1 q) fun σ2 H2 ⟨W2, sl2, st2, hl2, e2, w2, rs2, _, h2⟩ => h2 σ2 H2 W2 Ext.refl w2 rs2⟩
/-- a, b = e1, e2 -/
def sPar (i j : Nat) (ma : EA) : SS := fun _ sl st => toS (ma sl st) sl fun ds st => match ds with
  | [d1, d2] => .nx ((sl.set i d1).set j d2) st
  | _ => .bad
/-! ### xs[i] = e -/
def gSubM (T : Tb) (mo mi : EE) : SG := fun d n sl st => match mo sl st with
  | .ok o st => (match mi sl st with
    | .ok (.int i) st => (match o with
      | .mref k => (match st[k]? with
        | some (.lst xs) => (match ixN xs.length i with
          | some j => .nx sl (st.set k (.lst (xs.set j d)))
          | none => .bad)
        | _ => .bad)
      | _ => .bad)
    | _ => .bad)
  | _ => .bad
theorem RepL.set {vs : List V} {ds : List D} {v : V} {d : D} (hv : Rep G W H v d) : RepL G W H vs ds → ∀ j, RepL G W H (vs.set j v) (ds.set j d)
  | .nil, j => by simp; exact .nil
  | .cons h r, 0 => .cons hv r
  | .cons h r, j + 1 => .cons h (RepL.set hv r j)
theorem tE_of {me : EE} {sl : Sl} {d : D} {st' : Sto} (w : WOk G (LX X sl.lk σ) W H st) (rs : RepS G W H σ sl) (e : me sl st = .ok d st') {Q : VK} (h : ∀ v H' W', ExtE W H W' H' → WOk G (LX X sl.lk σ) W' H' st' → RepS G W' H' σ sl → Rep G W' H' v d → Q v H') : tE G X Wx me σ H Q := by
  refine ⟨W, st, sl, w, rs, ?_⟩
  rw [e]
  exact fun v H' W' e w r => h v H' W' e w (rs.see e.sees) r
theorem eg_sub {o i : Expr} {mo mi : EE} (ho : EvE G X Wx o mo) (hi : EvE G X Wx i mi)
    (ha : ∀ v, assign (.Subscript o i pos) X.env v = (do
      let ov ← holding [v] (eval o X.env)
      let iv ← holding [v, ov] (eval i X.env)
      standAt pos
      holding [v, ov, iv] (setItem ov iv v)
      release [v, ov, iv] []) := by intro _; rfl) : EvG G X Wx (.Subscript o i pos) (gSubM T mo mi) :=
  PG.imp (pg_sub ho hi set_list ha) fun v σ H Q ⟨n, W, st, sl, d, hl, w, rs, r, h⟩ => by
    unfold gSubM at h
    split at h
    · rename_i od st1 e1
      split at h
      · rename_i ii st2 e2
        split at h
        · rename_i kk
          split at h
          · rename_i xs hk
            split at h
            · rename_i j hj
              refine tE_of w rs e1 fun ov H1 W1 x1 w1 rs1 ro => tE_of w1 rs1 e2 fun iv H2 W2 x2 w2 rs2 ri => ?_
              cases rep_int ri
              have ro2 := ro.see x2.sees
              cases ro2 with
              | @mref p _ hm =>
                obtain ⟨nf, vs, ea, rl⟩ := w2.lst_mu hm hk
                refine ⟨p, vs, ii, j, rfl, rfl, ea, by rw [rl.len]; exact hj, ?_⟩
                have se := upd_sees (H := H2) (o := .lst (vs.set j v)) nf
                have ex : Ext n W H W2 (upd H2 p (.lst (vs.set j v))) := ((Ext.mono x1 hl).trans (Ext.mono x2 (Nat.le_trans hl x1.len)) (Nat.le_refl _) hl).trans (upd_ext hm nf (by rw [ea]; exact fun z => nomatch z)) (Nat.le_refl _) hl
                exact h σ _ W2 ex (upd_ok w2 hm nf ⟨nf, _, upd_same, (rl.see se).set (((r.see x1.sees).see x2.sees).see se) j⟩) (rs2.see se)
            · exact False.elim h
          · exact False.elim h
        · exact False.elim h
      · exact False.elim h
    · exact False.elim h
/-! ### for -/
def forTurn (g : SG) (b : SS) (d : D) (rest : SS) : SS := fun n sl st => match g d n sl st with
  | .nx sl st => (match b n sl st with
    | .nx sl st => rest n sl st
    | .ct sl st => rest n sl st
    | .bk sl st => .nx sl st
    | r => r)
  | _ => .bad
def forL (g : SG) (b : SS) : List D → SS
  | [] => sNil
  | d :: ds => forTurn g b d (forL g b ds)
/-- over a list that may change: it is looked at again each turn -/
def forM (g : SG) (b : SS) (k : Nat) : Nat → Nat → SS
  | 0, _ => fun _ _ _ => .bad
  | f + 1, i => fun n sl st => match seqOf (.mref k) st with
    | some xs => (match xs[i]? with
      | some d => forTurn g b d (forM g b k f (i + 1)) n sl st
      | none => .nx sl st)
    | none => .bad
def sFor (m : EE) (g : SG) (b : SS) : SS := fun n sl st => toS (m sl st) sl fun d st => match d with
  | .lst xs => forL g b xs n sl st
  | .slst xs => forL g b xs n sl st
  | .tup xs => forL g b xs n sl st
  | .mref k => forM g b k FU 0 n sl st
  | _ => .bad
theorem forTurn_S {g : SG} {b rest : SS} {v : V} {d : D} {sl : Sl} {N : L2.St → Hp → Prop} (hl : n ≤ W.mu.length) (w : WOk G (LX X sl.lk σ) W H st) (rs : RepS G W H σ sl) (r : Rep G W H v d) (h : postS G X Wx n W H Z (forTurn g b d rest n sl st))
    (hN : ∀ σ' H' W' sl' st', n ≤ W'.mu.length → Ext n W H W' H' → WOk G (LX X sl'.lk σ') W' H' st' → RepS G W' H' σ' sl' → postS G X Wx n W' H' Z (rest n sl' st') → N σ' H') :
    tTg G X Wx g v σ H fun σ2 H2 => tS G X Wx b { Z with nx := N, ct := N, bk := Z.nx } σ2 H2 := by
  refine ⟨n, W, st, sl, d, hl, w, rs, r, tg_Q (tg_S hl h) fun σ2 H2 ⟨W2, sl2, st2, hl2, e2, w2, rs2, _, h2⟩ => ⟨n, W2, st2, sl2, hl2, w2, rs2, ?_⟩⟩
  revert h2
  cases b n sl2 st2 with
  | nx sl' st' => exact fun h σ' H' W' e w rs => hN σ' H' W' sl' st' (Nat.le_trans hl2 e.len) (e2.trans e (Nat.le_refl _) hl) w rs (h.after e hl2)
  | ct sl' st' => exact fun h σ' H' W' e w rs => hN σ' H' W' sl' st' (Nat.le_trans hl2 e.len) (e2.trans e (Nat.le_refl _) hl) w rs (h.after e hl2)
  | bk sl' st' => exact id
  | rt d st' => exact id
  | exc e sl' st' => exact id
  | bad => exact id
theorem drop_at {α : Type} {xs : List α} {i : Nat} {x : α} (h : xs[i]? = some x) : xs.drop i = x :: xs.drop (i + 1) := by
  obtain ⟨hi, e⟩ := List.getElem?_eq_some_iff.mp h
  rw [List.drop_eq_getElem_cons hi, e]
/-- the loop over what stands still -/
theorem forL_S {g : SG} {b : SS} {sq : Hp → Prop} {vs : List V} {xs : List D} {sl : Sl} (hl : n ≤ W.mu.length) (w : WOk G (LX X sl.lk σ) W H st) (rs : RepS G W H σ sl) (rl : RepL G W H vs xs) (h : postS G X Wx n W H Z (forL g b xs n sl st)) (hsq : sq H)
    (keep : ∀ W' H', Ext n W H W' H' → sq H') {Pv : Nat → L2.St → Hp → Prop} (hPv : Pv = fun i σ H' => ∃ W' st' sl', n ≤ W'.mu.length ∧ Ext n W H W' H' ∧ WOk G (LX X sl'.lk σ) W' H' st' ∧ RepS G W' H' σ sl' ∧ RepL G W' H' vs xs ∧ postS G X Wx n W' H' Z (forL g b (xs.drop i) n sl' st')) :
    Pv 0 σ H ∧ (∀ i σ H', Pv i σ H' → sq H') ∧ (∀ i x σ H', vs[i]? = some x → Pv i σ H' → tTg G X Wx g x σ H' fun σ2 H2 => tS G X Wx b { Z with nx := Pv (i + 1), ct := Pv (i + 1), bk := Z.nx } σ2 H2) ∧ (∀ σ H', Pv vs.length σ H' → Z.nx σ H') := by
  subst hPv
  refine ⟨⟨W, st, sl, hl, Ext.refl, w, rs, rl, h⟩, fun i σ H' ⟨W', st', sl', hl', e, _⟩ => keep W' H' e, fun i x σ H' hx ⟨W', st', sl', hl', e, w', rs', rl', h'⟩ => ?_, fun σ H' ⟨W', st', sl', hl', e, w', rs', rl', h'⟩ => ?_⟩
  · have hd : ∃ d, xs[i]? = some d := by
      have := (List.getElem?_eq_some_iff.mp hx).1
      rw [rl'.len] at this
      exact ⟨_, List.getElem?_eq_getElem this⟩
    obtain ⟨d, hd⟩ := hd
    obtain ⟨v, hv, rv⟩ := rl'.get hd
    rw [hx] at hv
    cases hv
    rw [drop_at hd] at h'
    exact forTurn_S hl' w' rs' rv h' fun σ2 H2 W2 sl2 st2 hl2 e2 w2 rs2 h2 => ⟨W2, st2, sl2, hl2, e.trans e2 (Nat.le_refl _) hl, w2, rs2, rl'.see e2.sees, h2⟩
  · have h' : postS G X Wx n W' H' Z (forL g b (xs.drop vs.length) n sl' st') := h'
    rw [rl'.len, List.drop_length] at h'
    exact h' σ H' W' Ext.refl w' rs'
theorem PI.or {tg l : Expr} {w1 w2 : TI} (h1 : PI X tg l w1) (h2 : PI X tg l w2) : PI X tg l (fun σ H R => w1 σ H R ∨ w2 σ H R) := ⟨fun pins s σ H R I h => h.elim (fun h => h1.run pins s σ H R I h) fun h => h2.run pins s σ H R I h⟩
end
end MP
set_option Elab.async false
set_option linter.all false
set_option maxRecDepth 100000
set_option maxHeartbeats 1000000
namespace SP
open PySem PySem.Spec PyProof.Rows L2
section
open PySem.SeqAt
open AutoSeq1 (wpAny_loadPart')
open MeetsSeq MeetsSeq2 MeetsSeq3 SeqRoads2
open PySem.Builtin
theorem meets_enumerate_newT (l : Addr) (items : Array Value) (n : Nat) (dct : Option Addr) (sl : Array (Option Value)) :
    Meets (Builtin.«enumerate.__new__» ⟨[.type "enumerate", .ref l], []⟩) (fun _ R s => s.heap.get? l = some { cls := .type "tuple", dict := dct, data := .seq items n, slots := sl } ∧
      R (.ok (.ret (.ref (s.heap.push { cls := .type "tuple_iterator", data := .fields #[.ref l, .int 0 0] }).objs.size)))
        { s with heap := (s.heap.push { cls := .type "tuple_iterator", data := .fields #[.ref l, .int 0 0] }).push { cls := .type "enumerate", data := .fields #[.none, .bool false, .ref s.heap.objs.size, rawInt 0, .none, .none] } }) :=
  .of_wp fun prog w A R s h => by
    obtain ⟨hp, g, d, tk, os⟩ := s; obtain ⟨hl, h⟩ := h
    have hsub := sub_enumerate
    have hL : Heap.IsTuple (Shared.heap ⟨hp, g, d, tk, os⟩) l items := ⟨_, hl, rfl, n, rfl⟩
    wp_walk using wpAny_loadPart' hl
    refine wpAny_stack_any fun st => wpAny_pure ?_
    split
    · rename_i c _ _ _ _ _
      cases (c == Value.type "enumerate")
      · wp_walk using wpAny_loadPart' hl, wpAny_pyIter_tuple hL
        exact ⟨_, rfl, h⟩
      · wp_walk using wpAny_loadPart' hl, wpAny_pyIter_tuple hL
        exact ⟨_, rfl, h⟩
    · wp_walk using wpAny_loadPart' hl, wpAny_pyIter_tuple hL
      exact ⟨_, rfl, h⟩
variable {prog : Program} {w : World} {A : Around} {E : Value → Shared → Prop} {s : Shared}
theorem call_enumerate_tuple {l : Addr} {items : Array Value} {Q : Value → Shared → Prop} (hL : s.heap.IsTuple l items)
    (h : ∀ h', IsEnum h' (s.heap.objs.size + 1) s.heap.objs.size 0 .none → h'.IsTupleIter s.heap.objs.size l 0 → h'.objs.size = s.heap.objs.size + 2 →
      (∀ b o, s.heap.get? b = some o → h'.get? b = some o) → Q (.ref (s.heap.objs.size + 1)) { s with heap := h' }) :
    wpAny (model prog w) A (call (.type "enumerate") [.ref l]) Q E s := by
  obtain ⟨⟨c, dct, dt, sl⟩, hl, hc, n, hd⟩ := hL
  replace hc : c = .type "tuple" := hc
  replace hd : dt = .seq items n := hd
  subst hc hd
  refine callType_new F.called_enumerate (by decide) (F.typeCall_enumerate_1 _) (F.newCall_enumerate_1 _) (fun obj => F.args_object_init_2 obj _) F.entry_enumerate_new
    (meets_enumerate_newT l items n dct sl) ⟨hl, ?_⟩
  have hz : (s.heap.push { cls := .type "tuple_iterator", data := .fields #[.ref l, .int 0 0] }).objs.size = s.heap.objs.size + 1 := Heap.size_push ..
  show _ ∧ _
  rw [hz]
  have he : IsEnum ((s.heap.push { cls := .type "tuple_iterator", data := .fields #[.ref l, .int 0 0] }).push
      { cls := .type "enumerate", data := .fields #[.none, .bool false, .ref s.heap.objs.size, rawInt 0, .none, .none] }) (s.heap.objs.size + 1) s.heap.objs.size 0 .none := by
    have := Heap.get?_push_size (s.heap.push { cls := .type "tuple_iterator", data := .fields #[.ref l, .int 0 0] })
      (o := { cls := .type "enumerate", data := .fields #[.none, .bool false, .ref s.heap.objs.size, rawInt 0, .none, .none] }) rfl
    rw [hz] at this; exact this
  refine ⟨⟨_, he, rfl⟩, h _ he ⟨_, Heap.get?_push_of_some _ (Heap.get?_push_size _ rfl), rfl, rfl⟩ (by rw [Heap.size_push, hz]) fun b o x => Heap.get?_push_of_some _ (Heap.get?_push_of_some _ x)⟩
end
/-- the tuple at a, its items in new pairs with their indexes -/
def IteT (K : PySem.W.Frag) (a : Addr) : It :=
  ⟨fun i H => ∃ (xs : List V) (x : V), SqT K H a xs ∧ xs[i]? = some x, fun i H v H' => ∃ T x, v = .ref T ∧ H T = none ∧ H' = upd H T (.tup [.int (i : Nat), x]) ∧ ∀ xs, SqT K H a xs → xs[i]? = some x, fun i H => ∃ xs : List V, SqT K H a xs ∧ xs.length ≤ i⟩
theorem tup_ne_iter {h : Heap} {a it : Addr} {items : Array Value} {i : Nat} (p : h.IsTuple a items) (q : h.IsTupleIter it a i) : a ≠ it := fun z => by
  obtain ⟨o, ho, hc, _⟩ := p
  obtain ⟨o', ho', hc', _⟩ := q
  rw [z, ho'] at ho
  cases ho
  rw [hc'] at hc
  exact absurd hc (by decide)
theorem turn_enumT {P : Program} {w : World} {K : PySem.W.Frag} {elts : List Expr} {kk : Nat} {tpos : Pos} (a e it : Addr) :
    Turn P w K (.Tuple elts kk tpos) (IteT K a) [e, it] e (fun i h => (∃ old, IsEnum h e it ((i : Nat) : Int) old) ∧ h.IsTupleIter it a i ∧ e ≠ it ∧ e ≠ a) where
  mem := by simp
  obj := fun i h st b hb => by
    obtain ⟨⟨old, he⟩, ⟨o, ho, hc, hd⟩, _⟩ := st
    have e' : b = e ∨ b = it := by simpa using hb
    rcases e' with z | z
    · rw [z]; exact ⟨_, he, fun v q => nomatch q⟩
    · rw [z]; exact ⟨o, ho, fun v q => by rw [hd] at q; cases q⟩
  keep := fun i h h' st k => let ⟨⟨old, he⟩, hi, hne⟩ := st; ⟨⟨old, k e (by simp) _ he⟩, hi.at fun o q => k it (by simp) o q, hne⟩
  item := by
    intro X hP hw hK hc i pins s σ H E I hf st hg
    subst hP hw hK
    obtain ⟨⟨old, he⟩, hit, hne, hea⟩ := st
    obtain ⟨xs, x, hq, hx⟩ := hg
    obtain ⟨its, rv, p, hz⟩ := I.tuple hq
    have p : s.heap.IsTuple a its.toArray := p
    obtain ⟨u, hu, ru⟩ := rv.get hx
    have hel : e < s.heap.objs.size := Heap.lt_size he
    have hil : it < s.heap.objs.size := by obtain ⟨_, q, _⟩ := hit; exact Heap.lt_size q
    have hai := tup_ne_iter p hit
    have hlt : i < its.toArray.size := by
      have := (List.getElem?_eq_some_iff.mp hu).1
      simpa using this
    have hh : X.A.in1.handled = none := I.ok.hd hc
    refine wpAny_pyNext_enum_itemC (Draws.tuple hh it a hai its.toArray) he ⟨hit, p⟩ hlt hne (by simp [hne, hea]) fun y h' tk hy ho st' hT hsz hk => ?_
    have ey : y = u := by
      have h1 : its.toArray[i]? = some u := by simpa using hu
      rw [h1] at hy
      injection hy with hy
      exact hy.symm
    subst ey
    refine ⟨_, rfl, wpAny_letOwnedTupleGo_enum (s := { s with heap := h', toks := tk + 1 }) ho fun h'' he' sb => ?_⟩
    have hT2 : h''.get? s.heap.objs.size = some { cls := .type "tuple", data := .seq #[.int i tk, y] } := (sb.2 _ (Nat.ne_of_gt hel)).trans hT
    have new : ObjOk X.prog X.w (upd H s.heap.objs.size (.tup [.int (i : Nat), x])) h'' s.heap.objs.size (.tup [.int (i : Nat), x]) :=
      ⟨by show 2 ≤ sizeLine; decide, [.int i tk, y], .cons ⟨_, rfl⟩ (.cons ru .nil), ⟨_, hT2, rfl, _, rfl⟩⟩
    have I1 : Inv X pins σ (upd H s.heap.objs.size (.tup [.int (i : Nat), x])) { s with heap := h'', toks := tk + 1 } :=
      I.turnedNew (ch := [e, it]) (fun b ob hb q => (sb.2 b (fun z => hb (by simp [z]))).trans (hk b ob (fun z => hb (by simp [z])) (fun z => hb (by simp [z])) q)) hf (Nat.le_refl _) new
    refine ⟨.ref s.heap.objs.size, _, I1, rfl, ⟨_, x, rfl, I.hok.fresh (Nat.le_refl _), rfl, fun ys hy => by rw [I.tuple_inj hy hq]; exact hx⟩, ⟨⟨y, ?_⟩, st'.1.at fun o q => (sb.2 it (Ne.symm hne)).trans q, hne, hea⟩, fun b hb => ?_⟩
    · have e1 : ((i + 1 : Nat) : Int) = (i : Int) + 1 := by omega
      rw [e1]; exact he'
    · have hb' : b < s.heap.objs.size := by
        have e' : b = e ∨ b = it := by simpa using hb
        rcases e' with z | z
        · rw [z]; exact hel
        · rw [z]; exact hil
      rw [upd_ne (Nat.ne_of_lt hb')]
      exact (hf b hb).1
  done := by
    intro X hP hw hK hc i pins s σ H E I hf st hg
    subst hP hw hK
    obtain ⟨⟨old, he⟩, hit, hne, hea⟩ := st
    obtain ⟨xs, hq, hx⟩ := hg
    obtain ⟨its, rv, p, hz⟩ := I.tuple hq
    have p : s.heap.IsTuple a its.toArray := p
    obtain ⟨f0, f1, f2, f3, f4, f5⟩ := hf it (by simp)
    have hl := rv.length
    have hai := tup_ne_iter p hit
    have hh : X.A.in1.handled = none := I.ok.hd hc
    have D : Draws X.prog X.w X.A.in1 it [it, a] i (fun _ _ => True) (fun j h => j = i ∧ h.IsTupleIter it a i ∧ h.IsTuple a its.toArray) :=
      { live := fun _ _ st => let ⟨o, ho, _⟩ := st.2.1; ⟨o, ho⟩
        frame := fun _ _ _ st hk => ⟨st.1, st.2.1.at fun o e => hk it (by simp) o e, st.2.2.at fun o e => hk a (by simp) o e⟩
        item := fun j s Q E hj st hQ => absurd st.1 (Nat.ne_of_lt hj)
        done := fun s Q E st hE => wpAny_nextOf_tuple_end hh st.2.1 st.2.2 (by simp; omega) hE }
    exact wpAny_pyNext_enum_endD D he ⟨rfl, hit, p⟩ fun h' eb => ⟨rfl, I.turned (t' := s.toks) (fun b o hb q => eb b o hb q) f0 f1 f3 f4 f5⟩
  self := fun A i s Q E st h => let ⟨⟨_, he⟩, _⟩ := st; wpAny_pyIter_enum he h
def iEnumT (K : PySem.W.Frag) (ta : TA) : TI := fun σ H R => ta σ H fun vs H1 => ∃ a xs, vs = [.ref a] ∧ SqT K H1 a xs ∧ R (IteT K a) H1
theorem pi_enumT {X : Cx} {e : Expr} {ta : TA} {p pos tpos : Pos} {elts : List Expr} {kk : Nat} (hg : Gl X "enumerate") (hm : X.mg "enumerate" = none) (ha : PA X [e] ta) (hs : starEach [e] X.env = [(false, eval e X.env)] := by rfl) :
    PI X (.Tuple elts kk tpos) (.Call (.Name "enumerate" p) [e] [] pos) (iEnumT X.K ta) := by
  refine ⟨fun pins s σ H R I h => ?_⟩
  refine Call_ (ld_blt I hg hm boot_enumerate (PyProof.Rows.callWith_type1 (thn (ha.run pos pins s σ H _ I h) fun us s1 ⟨vs, H1, I1, r1, q1⟩ => ?_) hs rfl))
  obtain ⟨a, xs, ex, hq, q⟩ := q1
  subst ex
  cases r1 with
  | cons r rr =>
    cases rr
    cases r
    obtain ⟨its, rv, p', hz⟩ := I1.tuple hq
    have p' : s1.heap.IsTuple a its.toArray := p'
    have hal : a < s1.heap.objs.size := by obtain ⟨_, q, _⟩ := p'; exact Heap.lt_size q
    refine call_enumerate_tuple p' fun h' he hit hsz hk => wpAny_pyIter_enum he ?_
    have I2 : Inv X pins σ H1 { s1 with heap := h' } := I1.kept (t' := s1.toks) hk
    refine ⟨s1.heap.objs.size + 1, [s1.heap.objs.size + 1, s1.heap.objs.size], _, _, H1, rfl, I2, turn_enumT a (s1.heap.objs.size + 1) s1.heap.objs.size, ⟨⟨.none, he⟩, hit, Nat.succ_ne_self _, Nat.ne_of_gt (Nat.lt_succ_of_lt hal)⟩, fun b hb => ?_, q⟩
    have e' : b = s1.heap.objs.size + 1 ∨ b = s1.heap.objs.size := by simpa using hb
    have hle : s1.heap.objs.size ≤ b := by
      rcases e' with z | z
      · rw [z]; exact Nat.le_add_right _ _
      · rw [z]; exact Nat.le_refl _
    exact I1.fpOk hle (I1.hok.fresh hle)
end SP
set_option Elab.async false
set_option linter.all false
set_option maxRecDepth 100000
set_option maxHeartbeats 1000000
namespace MP
open PySem PySem.Spec PyProof.Rows L2 SP
/-! ### what is walked -/
inductive IT where
  | fix (xs : List D) | live (k : Nat)
def WalkS (G : Gc) (W : Wd) (H : Hp) (J : It) (xs : List D) : Prop := ∀ W2 H2, Sees W H W2 H2 → (∀ i, i < xs.length → J.go i H2) ∧ J.stop xs.length H2 ∧
  ∀ (i : Nat) (v : V) (H3 : Hp) (L : Addr → V → Prop) (st2 : Sto) (d : D), WOk G L W2 H2 st2 → J.yld i H2 v H3 → xs[i]? = some d → ∃ W3, ExtE W2 H2 W3 H3 ∧ WOk G L W3 H3 st2 ∧ Rep G W3 H3 v d
def relI (G : Gc) (K : PySem.W.Frag) (W : Wd) (H : Hp) (J : It) : IT → Prop
  | .fix xs => WalkS G W H J xs
  | .live k => ∃ a, J = Itl K a ∧ W.mu[k]? = some a
abbrev EI := Sl → MM IT
abbrev EvI (G : Gc) (X : Cx) (Wx : WX) (tg iter : Expr) (m : EI) : Prop := PI X tg iter (tG G X (relI G X.K) Wx m)
def itSeq (d : D) : MM IT := fun st => match d with
  | .lst xs => .ok (.fix xs) st
  | .slst xs => .ok (.fix xs) st
  | .tup xs => .ok (.fix xs) st
  | .mref k => match seqOf (.mref k) st with
    | some _ => .ok (.live k) st
    | none => .bad
  | _ => .bad
def iSeq (m : EE) : EI := fun sl st => (m sl st).bind itSeq
def rangeD (lo : Int) (m : Nat) : List D := (List.range m).map fun i : Nat => .int (lo + i)
def rng1 (ds : List D) : MM IT := fun st => match ds with
  | [.int j] => if -(2 ^ 62) ≤ j ∧ j < 2 ^ 62 then .ok (.fix (rangeD 0 j.toNat)) st else .bad
  | _ => .bad
def rng2 (ds : List D) : MM IT := fun st => match ds with
  | [.int i, .int j] => if -(2 ^ 62) ≤ i ∧ i < 2 ^ 62 ∧ -(2 ^ 62) ≤ j ∧ j < 2 ^ 62 then .ok (.fix (rangeD i (j - i).toNat)) st else .bad
  | _ => .bad
def iArgs (f : List D → MM IT) (m : EA) : EI := fun sl st => (m sl st).bind f
def enumD (xs : List D) : List D := xs.zipIdx.map fun p => .tup [.int (p.2 : Nat), p.1]
def enumM (ds : List D) : MM IT := fun st => match ds with
  | [.lst xs] => .ok (.fix (enumD xs)) st
  | [.slst xs] => .ok (.fix (enumD xs)) st
  | [.tup xs] => .ok (.fix (enumD xs)) st
  | _ => .bad
def zipD (xs ys : List D) : List D := (xs.zip ys).map fun p => .tup [p.1, p.2]
/-- what stands still -/
def fixed : D → Option (List D)
  | .lst xs => some xs
  | .slst xs => some xs
  | _ => none
def zipM (ds : List D) : MM IT := fun st => match ds with
  | [x, y] => match fixed x, fixed y with
    | some xs, some ys => .ok (.fix (zipD xs ys)) st
    | _, _ => .bad
  | _ => .bad
section
variable {G : Gc} {X : Cx} {Wx : WX} {k n : Nat} {T : Tb} {L L' : Addr → V → Prop} {W W' W3 : Wd} {H H' H3 : Hp} {st st3 : Sto} {σ : L2.St} {pins : List (Addr × Obj)} {s : Shared} {Q : VK} {pos pos' apos p rp : Pos} {a : Addr} {Z : Ends} {tg e iter : Expr}
theorem walk_L {K : PySem.W.Frag} {vs : List V} {xs : List D} (hsq : ∀ W2 H2, Sees W H W2 H2 → SqL K H2 a vs) (rl : RepL G W H vs xs) : WalkS G W H (Itl K a) xs := by
  intro W2 H2 se
  have sq := hsq W2 H2 se
  refine ⟨fun i hi => ?_, ⟨vs, sq, by rw [rl.len]; exact Nat.le_refl _⟩, fun i v H3 L st2 d w hy hd => ?_⟩
  · obtain ⟨v, hv, _⟩ := rl.get (List.getElem?_eq_getElem hi)
    exact ⟨vs, v, sq, hv⟩
  · obtain ⟨rfl, hy⟩ := hy
    obtain ⟨v', hv, rv⟩ := rl.get hd
    have := hy vs sq
    rw [hv] at this
    cases this
    exact ⟨W2, Ext.refl, w, rv.see se⟩
theorem walk_T {K : PySem.W.Frag} {vs : List V} {xs : List D} (hsq : ∀ W2 H2, Sees W H W2 H2 → SqT K H2 a vs) (rl : RepL G W H vs xs) : WalkS G W H (Itt K a) xs := by
  intro W2 H2 se
  have sq := hsq W2 H2 se
  refine ⟨fun i hi => ?_, ⟨vs, sq, by rw [rl.len]; exact Nat.le_refl _⟩, fun i v H3 L st2 d w hy hd => ?_⟩
  · obtain ⟨v, hv, _⟩ := rl.get (List.getElem?_eq_getElem hi)
    exact ⟨vs, v, sq, hv⟩
  · obtain ⟨rfl, hy⟩ := hy
    obtain ⟨v', hv, rv⟩ := rl.get hd
    have := hy vs sq
    rw [hv] at this
    cases this
    exact ⟨W2, Ext.refl, w, rv.see se⟩
theorem sqL_lst {K : PySem.W.Frag} {vs : List V} (f : W.F a) (ha : H a = some (.lst vs)) : ∀ W2 H2, Sees W H W2 H2 → SqL K H2 a vs := fun W2 H2 se => SqL.of (by rw [se.hf a f]; exact ha)
theorem sqL_rd {K : PySem.W.Frag} {vs : List V} (f : W.F a) (ha : Rd H a (.lst vs)) : ∀ W2 H2, Sees W H W2 H2 → SqL K H2 a vs := fun W2 H2 se => .inl (rd_of ha (se.hf a f))
theorem sqT_tup {K : PySem.W.Frag} {vs : List V} (f : W.F a) (ha : H a = some (.tup vs)) : ∀ W2 H2, Sees W H W2 H2 → SqT K H2 a vs := fun W2 H2 se => SqT.of (by rw [se.hf a f]; exact ha)
theorem fixed_at {K : PySem.W.Frag} {v : V} {d : D} {xs : List D} (r : Rep G W H v d) (e : fixed d = some xs) : ∃ a vs, v = .ref a ∧ (∀ W2 H2, Sees W H W2 H2 → SqL K H2 a vs) ∧ RepL G W H vs xs := by
  unfold fixed at e
  split at e
  · cases e
    cases r with
    | lst f ha rl => exact ⟨_, _, rfl, sqL_lst f ha, rl⟩
  · cases e
    cases r with
    | slst f ha rl => exact ⟨_, _, rfl, sqL_rd f ha, rl⟩
  · cases e
theorem ei_seq {me : EE} (he : EvE G X Wx iter me) : EvI G X Wx tg iter (iSeq me) := by
  refine ⟨fun pins s σ H R I ⟨W, st, sl, w, rs, h⟩ => (PI.or (pi_list he) (pi_tup he)).run pins s σ H R I ?_⟩
  by_cases ht : ∃ ds st1, me sl st = .ok (.tup ds) st1
  · obtain ⟨ds, st0, ht⟩ := ht
    refine .inr (tG_imp (one (rel' := Rep G) w rs h) fun x H1 ⟨W1, st1, d, e1, w1, rs1, r, em, q⟩ => ?_)
    rw [ht] at em
    cases em
    cases r with
    | @tup a vs _ f ha rl => exact ⟨a, rfl, ⟨vs, SqT.of ha⟩, q.same w1 (walk_T (sqT_tup f ha) rl)⟩
  · refine .inl (tG_imp (one (rel' := Rep G) w rs h) fun x H1 ⟨W1, st1, d, e1, w1, rs1, r, em, q⟩ => ?_)
    unfold itSeq at q
    split at q
    · cases r with
      | @lst a vs _ f ha rl => exact ⟨a, rfl, ⟨vs, SqL.of ha⟩, q.same w1 (walk_L (sqL_lst f ha) rl)⟩
    · cases r with
      | @slst a vs _ f ha rl => exact ⟨a, rfl, ⟨vs, .inl ha⟩, q.same w1 (walk_L (sqL_rd f ha) rl)⟩
    · exact absurd ⟨_, _, em⟩ ht
    · split at q
      · rename_i xs hx
        cases r with
        | @mref a _ hm =>
          obtain ⟨a', vs, ea, ha, rl⟩ := seq_at w1 (.mref hm) hx
          cases ea
          exact ⟨a, rfl, ⟨vs, SqL.of ha⟩, q.same w1 ⟨a, rfl, hm⟩⟩
      · exact False.elim q
    · exact False.elim q
theorem walk_R {lo : Int} {m : Nat} : WalkS G W H (Itr lo m) (rangeD lo m) := by
  intro W2 H2 se
  have hl : (rangeD lo m).length = m := by simp [rangeD]
  refine ⟨fun i hi => ?_, ?_, fun i v H3 L st2 d w hy hd => ?_⟩
  · rw [hl] at hi
    exact hi
  · rw [hl]
    exact Nat.le_refl _
  · obtain ⟨rfl, rfl⟩ := hy
    have hi : i < m := by rw [← hl]; exact (List.getElem?_eq_some_iff.mp hd).1
    unfold rangeD at hd
    rw [List.getElem?_map, List.getElem?_range hi] at hd
    cases hd
    exact ⟨W2, Ext.refl, w, .int _⟩
theorem ei_range1 {ma : EA} (hg : Gl X "range") (hm : X.mg "range" = none) (ha : EvA G X Wx [e] ma) (hs : starEach [e] X.env = [(false, eval e X.env)] := by rfl) : EvI G X Wx tg (.Call (.Name "range" rp) [e] [] p) (iArgs rng1 ma) := by
  refine ⟨fun pins s σ H R I ⟨W, st, sl, w, rs, h⟩ => (pi_range1 hg hm ha hs).run pins s σ H R I (tG_imp (one (rel' := RepL G) w rs h) fun x H1 ⟨W1, st1, d, e1, w1, rs1, r, em, q⟩ => ?_)⟩
  unfold rng1 at q
  split at q
  · rename_i j
    split at q
    · rename_i hj
      cases r with
      | cons r1 rr =>
        cases rr
        cases rep_int r1
        exact ⟨j, rfl, hj.1, hj.2, q.same w1 walk_R⟩
    · exact False.elim q
  · exact False.elim q
theorem ei_range2 {e2 : Expr} {ma : EA} (hg : Gl X "range") (hm : X.mg "range" = none) (ha : EvA G X Wx [e, e2] ma) (hs : starEach [e, e2] X.env = [(false, eval e X.env), (false, eval e2 X.env)] := by rfl) (hs2 : starEach [e2] X.env = [(false, eval e2 X.env)] := by rfl) :
    EvI G X Wx tg (.Call (.Name "range" rp) [e, e2] [] p) (iArgs rng2 ma) := by
  refine ⟨fun pins s σ H R I ⟨W, st, sl, w, rs, h⟩ => (pi_range2 hg hm ha hs hs2).run pins s σ H R I (tG_imp (one (rel' := RepL G) w rs h) fun x H1 ⟨W1, st1, d, e1, w1, rs1, r, em, q⟩ => ?_)⟩
  unfold rng2 at q
  split at q
  · rename_i i j
    split at q
    · rename_i hj
      cases r with
      | cons r1 rr =>
        cases rr with
        | cons r2 rr =>
          cases rr
          cases rep_int r1
          cases rep_int r2
          exact ⟨i, j, rfl, hj, q.same w1 walk_R⟩
    · exact False.elim q
  · exact False.elim q
theorem enum_at {xs : List D} {i : Nat} {d : D} (h : (enumD xs)[i]? = some d) : ∃ x, xs[i]? = some x ∧ d = .tup [.int (i : Nat), x] := by
  unfold enumD at h
  rw [List.getElem?_map] at h
  cases e : xs.zipIdx[i]? with
  | none => rw [e] at h; cases h
  | some q =>
    rw [e] at h
    cases h
    rw [List.getElem?_zipIdx] at e
    cases e2 : xs[i]? with
    | none => rw [e2] at e; cases e
    | some x =>
      rw [e2] at e
      cases e
      exact ⟨x, rfl, by simp⟩
theorem new_tuple {L : Addr → V → Prop} {vs : List V} {ds : List D} {t : Addr} (w : WOk G L W H st) (ht : H t = none) (rl : RepL G W H vs ds) : ∃ W3, ExtE W H W3 (upd H t (.tup vs)) ∧ WOk G L W3 (upd H t (.tup vs)) st ∧ Rep G W3 (upd H t (.tup vs)) (.ref t) (.tup ds) :=
  ⟨W.add t, add_ext w ht, add_ok w ht (fun _ z => nomatch z), .tup (.inr rfl) upd_same (rl.see (add_sees w ht))⟩
theorem walk_E {K : PySem.W.Frag} {vs : List V} {xs : List D} (hsq : ∀ W2 H2, Sees W H W2 H2 → SqL K H2 a vs) (rl : RepL G W H vs xs) : WalkS G W H (Ite K a) (enumD xs) := by
  intro W2 H2 se
  have sq := hsq W2 H2 se
  have hl : (enumD xs).length = xs.length := by simp [enumD]
  refine ⟨fun i hi => ?_, ⟨vs, sq, by rw [rl.len, hl]; exact Nat.le_refl _⟩, fun i v H3 L st2 d w hy hd => ?_⟩
  · rw [hl] at hi
    obtain ⟨v, hv, _⟩ := rl.get (List.getElem?_eq_getElem hi)
    exact ⟨vs, v, sq, hv⟩
  · obtain ⟨t, x, rfl, ht, rfl, hy⟩ := hy
    obtain ⟨dx, hx, rfl⟩ := enum_at hd
    obtain ⟨v', hv, rv⟩ := rl.get hx
    have := hy vs sq
    rw [hv] at this
    cases this
    exact new_tuple w ht (.cons (.int _) (.cons (rv.see se) .nil))
theorem walk_ET {K : PySem.W.Frag} {vs : List V} {xs : List D} (hsq : ∀ W2 H2, Sees W H W2 H2 → SqT K H2 a vs) (rl : RepL G W H vs xs) : WalkS G W H (IteT K a) (enumD xs) := by
  intro W2 H2 se
  have sq := hsq W2 H2 se
  have hl : (enumD xs).length = xs.length := by simp [enumD]
  refine ⟨fun i hi => ?_, ⟨vs, sq, by rw [rl.len, hl]; exact Nat.le_refl _⟩, fun i v H3 L st2 d w hy hd => ?_⟩
  · rw [hl] at hi
    obtain ⟨v, hv, _⟩ := rl.get (List.getElem?_eq_getElem hi)
    exact ⟨vs, v, sq, hv⟩
  · obtain ⟨t, x, rfl, ht, rfl, hy⟩ := hy
    obtain ⟨dx, hx, rfl⟩ := enum_at hd
    obtain ⟨v', hv, rv⟩ := rl.get hx
    have := hy vs sq
    rw [hv] at this
    cases this
    exact new_tuple w ht (.cons (.int _) (.cons (rv.see se) .nil))
theorem ei_enum {elts : List Expr} {kk : Nat} {tpos : Pos} {ma : EA} (hg : Gl X "enumerate") (hm : X.mg "enumerate" = none) (ha : EvA G X Wx [e] ma) (hs : starEach [e] X.env = [(false, eval e X.env)] := by rfl) :
    EvI G X Wx (.Tuple elts kk tpos) (.Call (.Name "enumerate" rp) [e] [] p) (iArgs enumM ma) := by
  refine ⟨fun pins s σ H R I ⟨W, st, sl, w, rs, h⟩ => (PI.or (pi_enum hg hm ha hs) (pi_enumT hg hm ha hs)).run pins s σ H R I ?_⟩
  by_cases ht : ∃ ds st1, ma sl st = .ok [.tup ds] st1
  · obtain ⟨ds, st0, ht⟩ := ht
    refine .inr (tG_imp (one (rel' := RepL G) w rs h) fun x H1 ⟨W1, st1, d, e1, w1, rs1, r, em, q⟩ => ?_)
    rw [ht] at em
    cases em
    cases r with
    | cons r1 rr =>
      cases rr
      cases r1 with
      | @tup a vs _ f ha rl => exact ⟨a, vs, rfl, SqT.of ha, q.same w1 (walk_ET (sqT_tup f ha) rl)⟩
  · refine .inl (tG_imp (one (rel' := RepL G) w rs h) fun x H1 ⟨W1, st1, d, e1, w1, rs1, r, em, q⟩ => ?_)
    unfold enumM at q
    split at q
    · cases r with
      | cons r1 rr =>
        cases rr
        cases r1 with
        | @lst a vs _ f ha rl => exact ⟨a, vs, rfl, SqL.of ha, q.same w1 (walk_E (sqL_lst f ha) rl)⟩
    · cases r with
      | cons r1 rr =>
        cases rr
        cases r1 with
        | @slst a vs _ f ha rl => exact ⟨a, vs, rfl, .inl ha, q.same w1 (walk_E (sqL_rd f ha) rl)⟩
    · exact absurd ⟨_, _, em⟩ ht
    · exact False.elim q
theorem walk_Z {K : PySem.W.Frag} {b : Addr} {vs us : List V} {xs ys : List D} (hsq : ∀ W2 H2, Sees W H W2 H2 → SqL K H2 a vs) (rl : RepL G W H vs xs) (hsq' : ∀ W2 H2, Sees W H W2 H2 → SqL K H2 b us) (rl' : RepL G W H us ys) : WalkS G W H (Itz K a b) (zipD xs ys) := by
  intro W2 H2 se
  have sq := hsq W2 H2 se
  have sq' := hsq' W2 H2 se
  have hl : (zipD xs ys).length = min xs.length ys.length := by simp [zipD]
  refine ⟨fun i hi => ?_, ⟨vs, us, sq, sq', by rw [rl.len, rl'.len, hl]; omega⟩, fun i v H3 L st2 d w hy hd => ?_⟩
  · rw [hl] at hi
    obtain ⟨v, hv, _⟩ := rl.get (List.getElem?_eq_getElem (show i < xs.length by omega))
    obtain ⟨u, hu, _⟩ := rl'.get (List.getElem?_eq_getElem (show i < ys.length by omega))
    exact ⟨vs, us, v, u, sq, sq', hv, hu⟩
  · obtain ⟨t, x, y, rfl, ht, rfl, hy, hy'⟩ := hy
    unfold zipD at hd
    rw [List.getElem?_map] at hd
    cases eq : (xs.zip ys)[i]? with
    | none => rw [eq] at hd; cases hd
    | some pq =>
      rw [eq] at hd
      cases hd
      have hz := List.getElem?_zip_eq_some.mp eq
      obtain ⟨v', hv, rv⟩ := rl.get hz.1
      obtain ⟨u', hu, ru⟩ := rl'.get hz.2
      have h1 := hy vs sq
      have h2 := hy' us sq'
      rw [hv] at h1
      rw [hu] at h2
      cases h1
      cases h2
      exact new_tuple w ht (.cons (rv.see se) (.cons (ru.see se) .nil))
theorem ei_zip {e2 : Expr} {elts : List Expr} {kk : Nat} {tpos : Pos} {ma : EA} (hg : Gl X "zip") (hm : X.mg "zip" = none) (ha : EvA G X Wx [e, e2] ma)
    (hs : starEach [e, e2] X.env = (false, eval e X.env) :: starEach [e2] X.env := by rfl) (hpl : (backTo p (starEach [e2] X.env)).any (·.1) = false := by rfl) :
    EvI G X Wx (.Tuple elts kk tpos) (.Call (.Name "zip" rp) [e, e2] [] p) (iArgs zipM ma) := by
  refine ⟨fun pins s σ H R I ⟨W, st, sl, w, rs, h⟩ => (pi_zip hg hm ha hs hpl).run pins s σ H R I (tG_imp (one (rel' := RepL G) w rs h) fun x H1 ⟨W1, st1, d, e1, w1, rs1, r, em, q⟩ => ?_)⟩
  unfold zipM at q
  split at q
  · split at q
    · rename_i xs ys h1 h2
      cases r with
      | cons r1 rr =>
        cases rr with
        | cons r2 rr =>
          cases rr
          obtain ⟨a, vs, rfl, q1, l1⟩ := fixed_at (K := X.K) r1 h1
          obtain ⟨b, us, rfl, q2, l2⟩ := fixed_at (K := X.K) r2 h2
          have se : Sees W1 H1 W1 H1 := ⟨fun _ h => h, fun _ _ => rfl, fun _ _ h => h⟩
          exact ⟨a, b, vs, us, rfl, q1 _ _ se, q2 _ _ se, q.same w1 (walk_Z q1 l1 q2 l2)⟩
    · exact False.elim q
  · exact False.elim q
/-! ### for -/
def sForI (m : EI) (g : SG) (b : SS) : SS := fun n sl st => toS (m sl st) sl fun it st => match it with
  | .fix xs => forL g b xs n sl st
  | .live k => forM g b k FU 0 n sl st
theorem ev_for {body : List Stmt} {mi : EI} {g : SG} {mb : SS} (hp : PassesOwn (model X.prog X.w) X.A X.env X.xe) (hc : X.calm = true) (hi : EvI G X Wx tg iter mi) (hg : EvG G X Wx tg g) (hb : EvSs G X Wx body mb)
    (hs : ∀ x, foldedSetIterable iter X.env x = pure x := by intro _; rfl) : EvS G X Wx (.For tg iter body [] pos) (sForI mi g mb) := by
  refine PS.imp (ps_for hp hc hi hg hb hs) fun Z σ H ⟨n, W, st, sl, hl, w, rs, h⟩ => tG_imp (oneS (rel := relI G X.K) hl w rs h) fun J H1 ⟨W1, st1, it, hl1, e1, w1, rs1, r, em, q⟩ => ?_
  cases it with
  | fix xs =>
    have r : WalkS G W1 H1 J xs := r
    refine ⟨fun i m σ H => m = xs.length - i ∧ i ≤ xs.length ∧ ∃ W st sl, n ≤ W.mu.length ∧ Sees W1 H1 W H ∧ WOk G (LX X sl.lk σ) W H st ∧ RepS G W H σ sl ∧ postS G X Wx n W H Z (forL g mb (xs.drop i) n sl st), ⟨xs.length, rfl, Nat.zero_le _, W1, st1, sl, hl1, ⟨fun _ h => h, fun _ _ => rfl, fun _ _ h => h⟩, w1, rs1, q⟩, fun i m σ H ⟨hm, hi, W, st, sl, hl, se, w, rs, h⟩ => ?_⟩
    obtain ⟨wg, ws, wy⟩ := r W H se
    by_cases hlt : i < xs.length
    · refine .inr ⟨wg i hlt, fun σ H => ∃ W st sl, n ≤ W.mu.length ∧ Sees W1 H1 W H ∧ WOk G (LX X sl.lk σ) W H st ∧ RepS G W H σ sl ∧ postS G X Wx n W H Z (forL g mb (xs.drop (i + 1)) n sl st), fun σ' H' z => ⟨xs.length - (i + 1), by omega, rfl, hlt, z⟩, fun v H' hy => ?_⟩
      have hd := List.getElem?_eq_getElem hlt
      obtain ⟨W2, e2, w2, rv⟩ := wy i v H' _ st _ w hy hd
      rw [drop_at hd] at h
      have se2 : ∀ {Wa Ha}, Sees W2 H' Wa Ha → Sees W1 H1 Wa Ha := fun s => ⟨fun b z => s.f b (e2.f b (se.f b z)), fun b z => (s.hf b (e2.f b (se.f b z))).trans ((e2.hf b (se.f b z)).trans (se.hf b z)), fun j b z => s.mu j b (e2.sees.mu j b (se.mu j b z))⟩
      exact forTurn_S (Nat.le_trans hl e2.len) w2 (rs.see e2.sees) rv (h.after (Ext.mono e2 hl) hl) fun σ2 H2 W3 sl3 st3 hl3 e3 w3 rs3 h3 => ⟨W3, st3, sl3, hl3, se2 e3.sees, w3, rs3, h3⟩
    · have : i = xs.length := by omega
      subst this
      rw [List.drop_length] at h
      exact .inl ⟨ws, h σ H W Ext.refl w rs⟩
  | live kk =>
    obtain ⟨a, rfl, hm⟩ := r
    have q0 : postS G X Wx n W1 H1 Z (forM g mb kk FU 0 n sl st1) := q
    refine ⟨fun i m σ H => ∃ W st sl, n ≤ W.mu.length ∧ WOk G (LX X sl.lk σ) W H st ∧ RepS G W H σ sl ∧ W.mu[kk]? = some a ∧ postS G X Wx n W H Z (forM g mb kk m i n sl st), ⟨FU, W1, st1, sl, hl1, w1, rs1, hm, q0⟩, fun i m σ H ⟨W, st, sl, hl, w, rs, hm, h⟩ => ?_⟩
    cases m with
    | zero => exact False.elim h
    | succ m =>
      unfold forM at h
      split at h
      · rename_i xs hx
        obtain ⟨a', vs, ea, ha, rl⟩ := seq_at w (.mref hm) hx
        cases ea
        split at h
        · rename_i d hd
          obtain ⟨v, hv, rv⟩ := rl.get hd
          refine .inr ⟨⟨vs, v, SqL.of ha, hv⟩, fun σ H => ∃ W st sl, n ≤ W.mu.length ∧ WOk G (LX X sl.lk σ) W H st ∧ RepS G W H σ sl ∧ W.mu[kk]? = some a ∧ postS G X Wx n W H Z (forM g mb kk m (i + 1) n sl st), fun σ' H' z => ⟨m, Nat.lt_succ_self m, z⟩, fun x H' hy => ?_⟩
          obtain ⟨rfl, hy⟩ := hy
          have := hy vs (SqL.of ha)
          rw [hv] at this
          cases this
          exact forTurn_S hl w rs rv h fun σ2 H2 W2 sl2 st2 hl2 e2 w2 rs2 h2 => ⟨W2, st2, sl2, hl2, w2, rs2, e2.sees.mu _ _ hm, h2⟩
        · rename_i hd
          refine .inl ⟨⟨vs, SqL.of ha, ?_⟩, h σ H W Ext.refl w rs⟩
          rw [rl.len]
          exact List.getElem?_eq_none_iff.mp hd
      · exact False.elim h
end
end MP
set_option Elab.async false
set_option linter.all false
set_option maxRecDepth 100000
set_option maxHeartbeats 1000000
namespace MP
open PySem PySem.Spec PyProof.Rows L2 SP
abbrev WF : WX := fun _ _ _ _ => False
section
variable {G : Gc} {X Y : Cx} {Wx : WX} {k n : Nat} {T : Tb} {L L' : Addr → V → Prop} {W W' W1 W2 W3 : Wd} {H H' H1 H2 H3 : Hp} {st st3 : Sto} {σ : L2.St} {pins : List (Addr × Obj)} {s : Shared} {Q : VK} {pos pos' apos p rp : Pos} {a : Addr} {Z : Ends} {tg e iter : Expr}
/-! ### the same elsewhere -/
theorem WOk.to (w : WOk G L W H st) (h : Lok L) : WOk G L' W H st := (w.ln h).nl
theorem post_cx {α β : Type} {rel : Wd → Hp → β → α → Prop} {Q : β → Hp → Prop} {r : Res α} (hL : Lok L) (hL' : Lok L') (h : post G L rel Wx σ W H Q r) : post G L' rel Wx σ W H Q r := by
  cases r with
  | ok d st => exact fun v H' W' e w r => h v H' W' e (w.to hL') r
  | exc d st => exact fun c dd H' W' e w r => h c dd H' W' e (w.to hL') r
  | bad => exact h
theorem tG_cx {α β : Type} {rel : Wd → Hp → β → α → Prop} {m : Sl → MM α} {Q : β → Hp → Prop} (h : tG G X rel Wx m σ H Q) : tG G Y rel Wx m σ H Q := by
  obtain ⟨W, st, sl, w, rs, h⟩ := h
  exact ⟨W, st, sl, w.to (lok_of rs), rs, post_cx (lok_of rs) (lok_of rs) h⟩
/-- inside a comprehension nothing is raised -/
theorem En.blk (N : En G X Wx k T) {s : Shared} {H : Hp} {scope : Scope} {cenv : Env} {fp : List Addr} : En G (X.blk s H scope cenv fp) WF k T :=
  ⟨fun u s' ⟨_, _, _, _, _, _, _, _, _, _, _, _, _, _, _, _, z⟩ => z, N.rm, N.gd, N.calm, PassesOwn.never, N.hK, N.fsx, N.fkx, N.kd, N.glo, N.fg, N.ins, N.exo, N.kit, N.xf, N.exm, N.nsub, N.tb, N.tu⟩
/-! ### targets of comprehensions -/
abbrev TM := D → Sl → Option Sl
abbrev TMs := List D → Sl → Option Sl
def tTm (G : Gc) (vs : List Nat) (m : TM) : TG := fun v σ H Q => ∃ W sl d sl', RepS G W H σ sl ∧ Rep G W H v d ∧ m d sl = some sl' ∧ ∀ σ', RepS G W H σ' sl' → wipe σ' vs = wipe σ vs → Q σ' H
def tTms (G : Gc) (vs : List Nat) (m : TMs) : TGs := fun v σ H Q => ∃ W sl d sl', RepS G W H σ sl ∧ RepL G W H v d ∧ m d sl = some sl' ∧ ∀ σ', RepS G W H σ' sl' → wipe σ' vs = wipe σ vs → Q σ' H
abbrev EvM (G : Gc) (X : Cx) (vs : List Nat) (tg : Expr) (m : TM) : Prop := PG X tg (tTm G vs m)
abbrev EvMs (G : Gc) (X : Cx) (vs : List Nat) (tg : List Expr) (m : TMs) : Prop := PGs X tg (tTms G vs m)
def tmN (i : Nat) : TM := fun d sl => some (sl.set i d)
def tmT (nn : Nat) (ms : TMs) : TM := fun d sl => match d with
  | .tup ds => if ds.length = nn then ms ds sl else none
  | _ => none
def tmNil : TMs := fun ds sl => match ds with
  | [] => some sl
  | _ => none
def tmC (m : TM) (ms : TMs) : TMs := fun ds sl => match ds with
  | d :: ds => (m d sl).bind (ms ds)
  | [] => none
theorem wipe_len (vs : List Nat) : ∀ σ : L2.St, (wipe σ vs).length = σ.length := by
  induction vs with
  | nil => intro σ; rfl
  | cons v vs ih => intro σ; unfold wipe; rw [List.length_set, ih]
theorem wipe_get (vs : List Nat) (i : Nat) : ∀ σ : L2.St, i < σ.length → (wipe σ vs)[i]? = if i ∈ vs then some none else σ[i]? := by
  induction vs with
  | nil => intro σ _; simp [wipe]
  | cons v vs ih =>
    intro σ hi
    unfold wipe
    by_cases e : v = i
    · subst e
      rw [List.getElem?_set_self (by rw [wipe_len]; exact hi)]
      simp
    · rw [List.getElem?_set_ne e, ih σ hi]
      simp [Ne.symm e]
theorem wipe_set {vs : List Nat} {i : Nat} {o : Option V} (h : i ∈ vs) (σ : L2.St) : wipe (σ.set i o) vs = wipe σ vs := by
  apply List.ext_getElem?
  intro j
  by_cases hj : j < σ.length
  · rw [wipe_get vs j _ (by rw [List.length_set]; exact hj), wipe_get vs j _ hj]
    by_cases e : j ∈ vs
    · rw [if_pos e, if_pos e]
    · rw [if_neg e, if_neg e, List.getElem?_set_ne (fun z : i = j => e (z ▸ h))]
  · rw [List.getElem?_eq_none (by rw [wipe_len, List.length_set]; omega), List.getElem?_eq_none (by rw [wipe_len]; omega)]
theorem em_name {i : Nat} {x : Str} {vs : List Nat} (hN : X.N.Nodup) (hi : X.N[i]? = some x) (hx : Loc X.env.scope x) (hv : i ∈ vs := by decide) (hf : X.fn x = true ∨ X.env.scope.names.lookup x = some .local := by first | exact .inl rfl | exact .inr rfl | assumption) : EvM G X vs (.Name x pos) (tmN i) :=
  PG.imp (pg_name hN hi hx hf) fun v σ H Q ⟨W, sl, d, sl', rs, r, e, h⟩ => by
    cases e
    exact h _ (rs.set r) (wipe_set hv σ)
theorem ems_nil {vs : List Nat} : EvMs G X vs [] tmNil := by
  refine ⟨fun pins s σ H vs us Q I r ⟨W, sl, ds, sl', rs, rl, e, h⟩ => ?_⟩
  cases rl with
  | nil =>
    cases e
    exact pgs_nil.run pins s σ H [] us Q I r ⟨rfl, h σ rs rfl⟩
  | cons _ _ => cases e
theorem ems_cons {vs : List Nat} {es : List Expr} {m : TM} {ms : TMs} (h1 : EvM G X vs e m) (h2 : EvMs G X vs es ms) (hs : (assignEach (e :: es) X.env).map (·.2) = assign e X.env :: (assignEach es X.env).map (·.2) := by rfl) : EvMs G X vs (e :: es) (tmC m ms) := by
  refine ⟨fun pins s σ H vs' us Q I r ⟨W, sl, ds, sl', rs, rl, e, h⟩ => ?_⟩
  cases rl with
  | nil => cases e
  | @cons v d vs2 ds2 rd rl =>
    have e : (m d sl).bind (ms ds2) = some sl' := e
    cases em : m d sl with
    | none => rw [em] at e; cases e
    | some sl1 =>
      rw [em] at e
      exact (pgs_cons h1 h2 hs).run pins s σ H _ us Q I r ⟨_, _, rfl, W, sl, d, sl1, rs, rd, em, fun σ1 rs1 hw1 => ⟨W, sl1, ds2, sl', rs1, rl, e, fun σ2 rs2 hw2 => h σ2 rs2 (hw2.trans hw1)⟩⟩
theorem em_tup {vs : List Nat} {es : List Expr} {kk nn : Nat} {ms : TMs} (hc : X.calm = true) (h : EvMs G X vs es ms) (hn : (assignEach es X.env).length = nn := by rfl) (hst : (assignEach es X.env).findIdx? (·.1) = none := by rfl) : EvM G X vs (.Tuple es kk pos) (tmT nn ms) :=
  PG.imp (pg_tup hc h hn hst) fun v σ H Q ⟨W, sl, d, sl', rs, r, e, h⟩ => by
    unfold tmT at e
    split at e
    · split at e
      · rename_i ds hl
        obtain ⟨a, ws, rfl, ha, rl⟩ := tup_at r
        exact ⟨a, ws, rfl, SqT.of ha, by rw [rl.len]; exact hl, W, sl, _, sl', rs, rl, e, h⟩
      · cases e
    · cases e
/-! ### the comprehension -/
def Sl.wipe (sl : Sl) (vs : List Nat) : Sl := ⟨(List.range sl.v.length).map fun i => if i ∈ vs then none else (sl.v[i]?).getD none, sl.lk && decide (0 ∉ vs)⟩
theorem wipe_out {vs : List Nat} (σ : L2.St) {i : Nat} (h : i ∉ vs) : (L2.wipe σ vs)[i]? = σ[i]? := by
  induction vs with
  | nil => rfl
  | cons v vs ih =>
    unfold L2.wipe
    rw [List.getElem?_set_ne (fun e => h (by simp [e]))]
    exact ih fun z => h (by simp [z])
theorem RepS.wipe {sl : Sl} (rs : RepS G W H σ sl) (vs : List Nat) : RepS G W H (L2.wipe σ vs) (sl.wipe vs) := by
  refine ⟨by rw [wipe_len, rs.len]; simp [Sl.wipe], fun i d e => ?_, fun z => ?_⟩
  case' refine_2 =>
    have z : (sl.lk && decide (0 ∉ vs)) = true := z
    obtain ⟨z1, z2⟩ := (Bool.and_eq_true _ _).mp z
    rw [wipe_out _ (of_decide_eq_true z2)]
    exact rs.lk z1
  have e : ((List.range sl.v.length).map fun i => if i ∈ vs then none else (sl.v[i]?).getD none)[i]? = some (some d) := e
  rw [List.getElem?_map] at e
  by_cases hi : i < sl.v.length
  · rw [List.getElem?_range hi] at e
    have e : some (if i ∈ vs then none else (sl.v[i]?).getD none) = some (some d) := e
    by_cases hv : i ∈ vs
    · rw [if_pos hv] at e; cases e
    · rw [if_neg hv] at e
      have hs : sl.v[i]? = some (some d) := by
        rw [List.getElem?_eq_getElem hi] at e ⊢
        simpa using e
      obtain ⟨v, h1, h2⟩ := rs.at_ i d hs
      exact ⟨v, by rw [wipe_get vs i σ (by rw [rs.len]; exact hi), if_neg hv]; exact h1, h2⟩
  · rw [List.getElem?_eq_none (by simpa using hi)] at e
    cases e
def tTrue : ET := fun _ st => .ok true st
def lcTurn (g : TM) (c : ET) (m : EE) (sl0 : Sl) (d : D) (st : Sto) : Option (Option D × Sto) := match g d sl0 with
  | some sl => match c sl st with
    | .ok b st => if b = true then match m sl st with
        | .ok y st => some (some y, st)
        | _ => none
      else some (none, st)
    | _ => none
  | none => none
def nextI : IT → Nat → Sto → Option (Option D)
  | .fix xs, i, _ => some xs[i]?
  | .live k, i, st => (seqOf (.mref k) st).map (·[i]?)
def lcG (g : TM) (c : ET) (m : EE) (sl0 : Sl) (it : IT) : Nat → Nat → List D → Sto → Option (List D × Sto)
  | 0, _, _, _ => none
  | f + 1, i, acc, st => match nextI it i st with
    | none => none
    | some none => some (acc, st)
    | some (some d) => match lcTurn g c m sl0 d st with
      | some (some y, st) => if acc.length < 1000000 then lcG g c m sl0 it f (i + 1) (acc ++ [y]) st else none
      | some (none, st) => lcG g c m sl0 it f (i + 1) acc st
      | none => none
def eLc (mi : EI) (g : TM) (c : ET) (m : EE) (vs : List Nat) : EE := fun sl st => (mi sl st).bind fun it st => match lcG g c m (sl.wipe vs) it FU 0 [] st with
  | some (ys, st) => .ok (.lst ys) st
  | none => .bad
theorem relI_see {K : PySem.W.Frag} {J : It} {it : IT} (r : relI G K W H J it) (s : Sees W H W1 H1) : relI G K W1 H1 J it := by
  cases it with
  | fix xs => exact fun W2 H2 s2 => r W2 H2 (s.trans s2)
  | live k =>
    obtain ⟨a, h1, h2⟩ := r
    exact ⟨a, h1, s.mu _ _ h2⟩
def okIx : IT → Nat → Prop
  | .fix xs, i => i ≤ xs.length
  | .live _, _ => True
theorem next_some {K : PySem.W.Frag} {J : It} {it : IT} {i : Nat} {d : D} (r : relI G K W H J it) (w : WOk G L W H st) (e : nextI it i st = some (some d)) : J.go i H ∧ okIx it (i + 1) ∧ ∀ v H3, J.yld i H v H3 → ∃ W3, ExtE W H W3 H3 ∧ WOk G L W3 H3 st ∧ Rep G W3 H3 v d := by
  cases it with
  | fix xs =>
    have hd : xs[i]? = some d := Option.some.inj e
    obtain ⟨h1, h2, h3⟩ := r W H Sees.refl
    exact ⟨h1 i (List.getElem?_eq_some_iff.mp hd).1, (List.getElem?_eq_some_iff.mp hd).1, fun v H3 hy => h3 i v H3 L st d w hy hd⟩
  | live k =>
    obtain ⟨a, rfl, hm⟩ := r
    have e : (seqOf (.mref k) st).map (·[i]?) = some (some d) := e
    cases q : seqOf (.mref k) st with
    | none => rw [q] at e; cases e
    | some xs =>
      rw [q] at e
      have hd : xs[i]? = some d := Option.some.inj e
      obtain ⟨a', vs, ea, ha, rl⟩ := seq_at w (.mref hm) q
      cases ea
      obtain ⟨v, hv, rv⟩ := rl.get hd
      refine ⟨⟨vs, v, SqL.of ha, hv⟩, trivial, fun x H3 hy => ?_⟩
      obtain ⟨rfl, hy⟩ := hy
      have := hy vs (SqL.of ha)
      rw [hv] at this
      cases this
      exact ⟨W, Ext.refl, w, rv⟩
theorem next_none {K : PySem.W.Frag} {J : It} {it : IT} {i : Nat} (r : relI G K W H J it) (w : WOk G L W H st) (hi : okIx it i) (e : nextI it i st = some none) : J.stop i H := by
  cases it with
  | fix xs =>
    have hd : xs[i]? = none := Option.some.inj e
    have : i = xs.length := Nat.le_antisymm hi (List.getElem?_eq_none_iff.mp hd)
    subst this
    exact (r W H Sees.refl).2.1
  | live k =>
    obtain ⟨a, rfl, hm⟩ := r
    have e : (seqOf (.mref k) st).map (·[i]?) = some none := e
    cases q : seqOf (.mref k) st with
    | none => rw [q] at e; cases e
    | some xs =>
      rw [q] at e
      have hd : xs[i]? = none := Option.some.inj e
      obtain ⟨a', vs, ea, ha, rl⟩ := seq_at w (.mref hm) q
      cases ea
      exact ⟨vs, SqL.of ha, by rw [rl.len]; exact List.getElem?_eq_none_iff.mp hd⟩
/-- the new list of a comprehension: neither known nor in the store as yet -/
structure OffL (W1 : Wd) (H1 : Hp) (W : Wd) (H : Hp) (p : Addr) : Prop where
  new : H1 p = none
  nf : ¬ W.F p
  nm : p ∉ W.mu
  ext : ExtE W1 H1 W H
theorem OffL.next {vs : List V} (o : OffL W1 H1 W H a) (h : H a = some (.lst vs)) (e : ExtE W H W2 H2) : OffL W1 H1 W2 H2 a ∧ H2 a = some (.lst vs) := by
  refine ⟨⟨o.new, fun z => ?_, fun z => ?_, o.ext.trans e⟩, e.keep a _ h o.nm fun _ z => nomatch z⟩
  · rcases e.fn a z with z | z | z
    · exact o.nf z
    · rw [h] at z; cases z
    · simp at z
  · obtain ⟨l, q, hl⟩ := e.mu
    rw [q] at z
    rcases List.mem_append.mp z with z | z
    · exact o.nm z
    · rw [hl a z] at h; cases h
theorem OffL.upd {vs : List V} (o : OffL W1 H1 W H a) (w : WOk G L W H st) (h : H a = some (.lst vs)) {vs' : List V} : OffL W1 H1 W (upd H a (.lst vs')) a ∧ WOk G L W (upd H a (.lst vs')) st ∧ Sees W H W (L2.upd H a (.lst vs')) := by
  have se : Sees W H W (L2.upd H a (.lst vs')) := upd_sees o.nf
  refine ⟨⟨o.new, o.nf, o.nm, ⟨o.ext.f, fun b z => ?_, o.ext.fn, o.ext.mu, fun b z => ?_, o.ext.ce, fun b u z hm ht => ?_⟩⟩, ⟨w.len, w.nd, fun b z => ?_, fun j b m h1 h2 => ?_, fun c v z => (w.ce c v z).imp id fun z => ?_, w.gk.wri h se (fun _ z => nomatch z) (fun _ z => nomatch z)⟩, se⟩
  · rw [upd_ne fun e : b = a => o.nf (e ▸ o.ext.f b z)]; exact o.ext.hf b z
  · by_cases e : b = a
    · rw [e, upd_same] at z; cases z
    · rw [upd_ne e] at z; exact o.ext.no b z
  · rw [upd_ne fun e : b = a => by rw [e, o.new] at z; cases z]; exact o.ext.keep b u z hm ht
  · rw [upd_ne fun e : b = a => o.nf (e ▸ z)]; exact w.fh b z
  · have ne : b ≠ a := fun e => o.nm (e ▸ List.mem_of_getElem? h1)
    exact (w.at_ j b m h1 h2).see se (fun z => z) (upd_ne ne)
  · obtain ⟨ob, u, q1, q2⟩ := z
    refine ⟨ob, u, ?_, q2⟩
    rw [upd_ne fun e : c = a => by rw [e, h] at q1; cases q1]
    exact q1
theorem OffL.done {vs : List V} {ds : List D} (o : OffL W1 H1 W H a) (w : WOk G L W H st) (h : H a = some (.lst vs)) (rl : RepL G W H vs ds) : ExtE W1 H1 (W.add a) H ∧ WOk G L (W.add a) H st ∧ Rep G (W.add a) H (.ref a) (.lst ds) := by
  have se : Sees W H (W.add a) H := ⟨fun _ z => .inl z, fun _ _ => rfl, fun _ _ z => z⟩
  refine ⟨⟨fun b z => .inl (o.ext.f b z), o.ext.hf, fun b z => ?_, o.ext.mu, o.ext.no, o.ext.ce, o.ext.keep⟩, ⟨w.len, w.nd, fun b z => ?_, fun j b m h1 h2 => ?_, w.ce, w.gk.same se⟩, .lst (.inr rfl) h (rl.see se)⟩
  · rcases z with z | rfl
    · exact o.ext.fn b z
    · exact .inr (.inl o.new)
  · rcases z with z | rfl
    · exact w.fh b z
    · exact ⟨_, h, fun _ z => nomatch z⟩
  · have ne : b ≠ a := fun e => o.nm (e ▸ List.mem_of_getElem? h1)
    exact (w.at_ j b m h1 h2).see se (fun z => z.elim id fun z => absurd z ne) rfl
theorem wipe_wipe (σ : L2.St) (vs : List Nat) : L2.wipe (L2.wipe σ vs) vs = L2.wipe σ vs := by
  apply List.ext_getElem?
  intro j
  by_cases hj : j < σ.length
  · rw [wipe_get vs j _ (by rw [wipe_len]; exact hj), wipe_get vs j _ hj]
    by_cases e : j ∈ vs
    · rw [if_pos e, if_pos e]
    · rw [if_neg e, if_neg e]
  · rw [List.getElem?_eq_none (by rw [wipe_len, wipe_len]; omega), List.getElem?_eq_none (by rw [wipe_len]; omega)]
theorem tE_T {tc : ET} {sl : Sl} {b : Bool} {st' : Sto} (w : WOk G (LX X sl.lk σ) W H st) (rs : RepS G W H σ sl) (e : tc sl st = .ok b st') {Q : Bool → Hp → Prop} (h : ∀ H' W', ExtE W H W' H' → WOk G (LX X sl.lk σ) W' H' st' → RepS G W' H' σ sl → Q b H') : tT G X Wx tc σ H Q := by
  refine ⟨W, st, sl, w, rs, ?_⟩
  rw [e]
  exact fun v H' W' e w r => by cases r; exact h H' W' e w (rs.see e.sees)
abbrev EvTs (G : Gc) (X : Cx) (ifs : List Expr) (m : ET) : Prop := PTs X ifs (tT G X WF m)
theorem PTs.imp {ifs : List Expr} {t t' : TT} (h : PTs X ifs t) (k : ∀ σ H Q, t' σ H Q → t σ H Q) : PTs X ifs t' := ⟨fun pins s σ H Q I q => h.run pins s σ H Q I (k σ H Q q)⟩
theorem ets_nil : EvTs G X [] tTrue := PTs.imp pts_nil fun σ H Q ⟨W, st, sl, w, rs, h⟩ => post.same (v := true) h w rfl
theorem ets_one {c : Expr} {m : ET} (h : EvT G X WF c m) : EvTs G X [c] m := pts_one h
theorem lc_read {mi : EI} {g : TM} {mc : ET} {me : EE} {vs : List Nat} (hz : tE G X Wx (eLc mi g mc me vs) σ H Q) : tLc (tG G X (relI G X.K) Wx mi) (tTm G vs g) (tT G X WF mc) (tE G X WF me) vs σ H Q := by
  obtain ⟨W, st, sl, w, rs, h⟩ := hz
  refine tG_imp (one (rel' := relI G X.K) w rs h) fun J H1 ⟨W1, st1, it, e1, w1, rs1, r, em, q⟩ => ?_
  intro Dd hD
  cases hlc : lcG g mc me (sl.wipe (vs)) it FU 0 [] st1 with
  | none =>
    rw [hlc] at q
    exact False.elim q
  | some z =>
    obtain ⟨ys, stF⟩ := z
    rw [hlc] at q
    have q : postE G (LX X sl.lk σ) Wx σ W1 H1 Q (.ok (.lst ys) stF) := q
    have o0 : OffL W1 H1 W1 (upd H1 Dd (.lst [])) Dd := ⟨hD, fun z => w1.f_ne hD z rfl, w1.mu_mem hD, skip_ext w1 hD⟩
    refine ⟨fun i m H => okIx it i ∧ ∃ W' st' acc accD, OffL W1 H1 W' H Dd ∧ WOk G (LX X sl.lk σ) W' H st' ∧ H Dd = some (.lst acc) ∧ RepL G W' H acc accD ∧ lcG g mc me (sl.wipe (vs)) it m i accD st' = some (ys, stF),
      ⟨FU, by cases it <;> first | exact Nat.zero_le _ | trivial, W1, st1, [], [], o0, skip_ok w1 hD, upd_same, .nil, hlc⟩, fun i m H ⟨hix, W', st', acc, accD, o, w', ha, rl, hr⟩ => ?_⟩
    cases m with
    | zero => cases hr
    | succ m =>
      have rI := relI_see r o.ext.sees
      have rsW := rs1.see o.ext.sees
      unfold lcG at hr
      split at hr
      · cases hr
      · rename_i hn
        cases hr
        refine .inl ⟨next_none rI w' hix hn, ?_⟩
        obtain ⟨z1, z2, z3⟩ := o.done w' ha rl
        exact q _ H _ z1 z2 z3
      · rename_i d hn
        obtain ⟨hgo, hix2, hy⟩ := next_some rI w' hn
        refine .inr ⟨hgo, fun H' => okIx it (i + 1) ∧ ∃ W' st' acc accD, OffL W1 H1 W' H' Dd ∧ WOk G (LX X sl.lk σ) W' H' st' ∧ H' Dd = some (.lst acc) ∧ RepL G W' H' acc accD ∧ lcG g mc me (sl.wipe (vs)) it m (i + 1) accD st' = some (ys, stF), fun H' z => ⟨m, Nat.lt_succ_self m, z⟩, fun x H' hx => ?_⟩
        obtain ⟨W2, e2, w2, rv⟩ := hy x H' hx
        obtain ⟨o2, ha2⟩ := o.next ha e2
        have rl2 := rl.see e2.sees
        have rs2 := (rsW.see e2.sees).wipe (vs)
        have L0 : Lok (LX X sl.lk σ) := lok_of rs
        split at hr
        · rename_i y stY hT
          unfold lcTurn at hT
          split at hT
          · rename_i sl2 hg2
            refine ⟨W2, _, d, sl2, rs2, rv, hg2, fun σ2 rs3 hw => ⟨hw.trans (by rw [wipe_wipe]), ?_⟩⟩
            split at hT
            · rename_i b st3 hc3
              refine tE_T (G := G) (X := X) (Wx := WF) (σ := σ2) (st := st') (w2.to L0) rs3 hc3 fun H3 W3 e3 w3 rs4 => ?_
              obtain ⟨o3, ha3⟩ := o2.next ha2 e3
              split at hT
              · rename_i hb
                cases hb
                split at hT
                · rename_i yy st4 he4
                  cases hT
                  rw [if_pos rfl]
                  refine tE_of (G := G) (X := X) (Wx := WF) (σ := σ2) (w3) rs4 he4 fun v H4 W4 e4 w4 rs5 rv4 => ?_
                  obtain ⟨o4, ha4⟩ := o3.next ha3 e4
                  have rl4 := (rl2.see e3.sees).see e4.sees
                  split at hr
                  · rename_i hlen
                    obtain ⟨o5, w5, se5⟩ := o4.upd w4 ha4 (vs' := acc ++ [v])
                    exact ⟨acc, ha4, by rw [rl.len]; exact Nat.lt_of_lt_of_le hlen (by rw [sizeLine_eq]; decide), hix2, W4, _, acc ++ [v], accD ++ [y], o5, w5.to (lok_of rs5), upd_same, (rl4.see se5).app (.cons (rv4.see se5) .nil), hr⟩
                  · cases hr
                · cases hT
              · cases hT
            · cases hT
          · cases hT
        · rename_i stY hT
          unfold lcTurn at hT
          split at hT
          · rename_i sl2 hg2
            refine ⟨W2, _, d, sl2, rs2, rv, hg2, fun σ2 rs3 hw => ⟨hw.trans (by rw [wipe_wipe]), ?_⟩⟩
            split at hT
            · rename_i b st3 hc3
              refine tE_T (G := G) (X := X) (Wx := WF) (σ := σ2) (st := st') (w2.to L0) rs3 hc3 fun H3 W3 e3 w3 rs4 => ?_
              obtain ⟨o3, ha3⟩ := o2.next ha2 e3
              split at hT
              · split at hT <;> cases hT
              · rename_i hb
                have hb : b = false := by simpa using hb
                subst hb
                cases hT
                exact ⟨hix2, W3, _, acc, accD, o3, w3.to (lok_of rs4), ha3, rl2.see e3.sees, hr⟩
            · cases hT
          · cases hT
        · cases hr
theorem ev_lc {elt : Expr} {ifs : List Expr} {scope : Scope} {own : List (Str × Nat)} {mi : EI} {g : TM} {mc : ET} {me : EE} (hc : X.calm = true) (hN : X.N.Nodup) (hi : EvI G X Wx tg iter mi) (ok : BlkOk X.N X.env.scope scope own)
    (hg : ∀ (s : Shared) (H : Hp) (C : Addr) (cl : List (Str × Addr)) (fp : List Addr), EvM G (X.blk s H scope (compEnvC scope cl C X.env) fp) (own.map (·.2)) tg g)
    (ht : ∀ (s : Shared) (H : Hp) (C : Addr) (cl : List (Str × Addr)) (fp : List Addr), EvTs G (X.blk s H scope (compEnvC scope cl C X.env) fp) ifs mc)
    (he : ∀ (s : Shared) (H : Hp) (C : Addr) (cl : List (Str × Addr)) (fp : List Addr), EvE G (X.blk s H scope (compEnvC scope cl C X.env) fp) WF elt me) (hs : ∀ x, foldedSetIterable iter X.env x = pure x := by intro _; rfl) :
    EvE G X Wx (.ListComp elt [⟨tg, iter, ifs, 0⟩] scope pos) (eLc mi g mc me (own.map (·.2))) := by
  refine PE.imp (pe_lc hc hN hi ok hg (fun s H C cl fp => PTs.imp (ht s H C cl fp) fun σ H Q (z : tT G X WF mc σ H Q) => tG_cx z) (fun s H C cl fp => PE.imp (he s H C cl fp) fun σ H Q (z : tE G X WF me σ H Q) => tG_cx z) hs) fun σ H Q h => lc_read h
end
end MP
set_option Elab.async false
set_option linter.all false
set_option maxRecDepth 100000
set_option maxHeartbeats 1000000
namespace MP
open PySem PySem.Spec PyProof.Rows L2 SP
theorem mkX_read {C : Addr} {fl : List Str} {vs : List V} {H : Hp} {Q : XK} (hl : vs.length = fl.length) (k : ∀ d H1, L2.Same H H1 → H d = none → H1 d = some (.xd (fl.zip vs).reverse) → Q (.ref C) (some d) H1) :
    ∀ a, H a = none → spXc C fl (.ref a :: (vs ++ [])) (upd H a (exo a C none)) (fun v H2 => v = .non ∧ ∃ (d : Addr) (fs : List (Str × V)), H2 a = some (exo a C (some d)) ∧ H2 d = some (exd d fs) ∧ H d = none ∧ Q (.ref C) (some d) (upd (del H2 a) d (.xd fs))) (fun _ _ _ => False) := by
  intro a ha
  refine ⟨a, vs, by rw [List.append_nil], hl, upd_same, fun dx H1 h1 h2 h3 h4 h5 => ⟨rfl, dx, _, h3, h4, ?_, ?_⟩⟩
  · rw [upd_ne h2] at h1
    exact h1
  · rw [upd_ne h2] at h1
    refine k dx _ (fun b o e => ?_) h1 upd_same
    have n1 := ne_of_none e h1
    have n2 := ne_of_none e ha
    rw [upd_ne n1, del_ne n2, h5 b n2 n1, upd_ne n2]
    exact e
section
variable {G : Gc} {X Y : Cx} {Wx : WX} {k n : Nat} {T : Tb} {L L' : Addr → V → Prop} {W W' W1 W2 W3 : Wd} {H H' H1 H2 H3 : Hp} {st st3 : Sto} {σ : L2.St} {pins : List (Addr × Obj)} {s : Shared} {Q : VK} {pos pos' apos p rp : Pos} {a : Addr} {Z : Ends} {e : Expr} {es : List Expr} {c : Str} {fl : List Str}
/-- more is there, one of it is known -/
theorem same_add {o : HO} (w : WOk G L W H st) (sm : L2.Same H H1) (hp : H a = none) (ho : H1 a = some o) (ht : ∀ ps, o ≠ .tbl ps) : ExtE W H (W.add a) H1 ∧ WOk G L (W.add a) H1 st ∧ Sees W H (W.add a) H1 := by
  have hf : ∀ b, W.F b → H1 b = H b := fun b z => by
    obtain ⟨o, e, _⟩ := w.fh b z
    rw [e, sm b o e]
  have se : Sees W H (W.add a) H1 := ⟨fun b z => .inl z, hf, fun _ _ z => z⟩
  refine ⟨⟨fun b z => .inl z, hf, fun b z => ?_, ⟨[], (List.append_nil _).symm, by simp⟩, fun b z => ?_, fun _ _ z => z, fun b u z _ _ => sm b u z⟩, ⟨w.len, w.nd, fun b z => ?_, fun j b m h1 h2 => ?_, fun x v z => (w.ce x v z).imp id fun z => ?_, w.gk.next se fun b o h _ => sm b o h⟩, se⟩
  · rcases z with z | rfl
    · exact .inl z
    · exact .inr (.inl hp)
  · cases q : H b with
    | none => rfl
    | some u => rw [sm b u q] at z; cases z
  · rcases z with z | rfl
    · obtain ⟨o, e, t⟩ := w.fh b z
      exact ⟨o, sm b o e, t⟩
    · exact ⟨o, ho, ht⟩
  · have ne := w.mu_ne hp h1
    obtain ⟨mm, e1, r1⟩ := w.mu_at h1
    obtain ⟨u, e2, _⟩ := r1.some w
    exact (w.at_ j b m h1 h2).see se (fun z => z.elim id fun z => absurd z ne) (by rw [e2, sm b u e2])
  · obtain ⟨ob, u, q1, q2⟩ := z
    exact ⟨ob, u, sm _ _ q1, q2⟩
theorem RepF.app {vs vs' : List (Str × V)} {ds ds' : List (Str × D)} : RepF G W H vs ds → RepF G W H vs' ds' → RepF G W H (vs ++ vs') (ds ++ ds')
  | .nil, s => s
  | .cons h r, s => .cons h (RepF.app r s)
theorem RepF.rev {vs : List (Str × V)} {ds : List (Str × D)} : RepF G W H vs ds → RepF G W H vs.reverse ds.reverse
  | .nil => .nil
  | .cons h r => by
    rw [List.reverse_cons, List.reverse_cons]
    exact (RepF.rev r).app (.cons h .nil)
theorem RepF.zip : ∀ {fl : List Str} {vs : List V} {ds : List D}, RepL G W H vs ds → RepF G W H (fl.zip vs) (fl.zip ds)
  | [], _, _, _ => .nil
  | _ :: _, _, _, .nil => .nil
  | f :: fl, _, _, .cons h r => .cons h (RepF.zip r)
/-! ### raise C(..) -/
def sRaise (c : Str) (fl : List Str) (ma : EA) : SS := fun _ sl st => toS (ma sl st) sl fun ds st => if ds.length = fl.length ∧ ds.length ≤ 1000 then .exc (.exc c (fl.zip ds).reverse) sl st else .bad
theorem ev_raise {ma : EA} (N : En G X Wx k T) (hx : T.xfl c = some fl) (hg : Gl X c) (ha : EvA G X Wx (e :: es) ma) (hdb : (c == ("__debug__" : Str)) = false := by decide) (he : starEach (e :: es) X.env = (false, eval e X.env) :: starEach es X.env := by rfl) (hpl : (backTo pos (starEach es X.env)).any (·.1) = false := by rfl) :
    EvS G X Wx (.Raise (some (.Call (.Name c p) (e :: es) [] pos)) none pos') (sRaise c fl ma) := by
  have F := N.xf c fl hx
  obtain ⟨fI, fd, ps, iC, tI, F1, hb⟩ := F.ini
  refine PS.imp (ps_raise N.calm N.tk (pmk_oex (pos := pos) (p := p) F.oex iC tI F1 (N.rm.mono (by omega)) hb .nil pass0 hg F.mg ha hdb he hpl)) fun Z σ H ⟨n, W, st, sl, hl, w, rs, h⟩ => tG_imp (oneS (rel := RepL G) hl w rs h) fun vs H1 ⟨W1, st1, ds, hl1, e1, w1, rs1, rl, _, q⟩ => ?_
  split at q
  · rename_i hd
    refine ⟨by rw [rl.len]; exact hd.2, mkX_read (H := H1) (C := G.ga c) (Q := fun cls d H' => Wx cls d σ H') (by rw [rl.len]; exact hd.1) fun d H2 sm hn h2 => ?_⟩
    obtain ⟨z1, z2, z3⟩ := same_add w1 sm hn h2 (fun _ z => nomatch z)
    exact q _ _ σ H2 _ (Ext.mono z1 hl1) z2 (rs1.see z3) ⟨c, _, rfl, rfl, .inr ⟨d, _, rfl, .inr rfl, h2, (RepF.zip (rl.see z3)).rev⟩⟩
  · exact False.elim q
/-! ### try .. except C as x -/
def Sl.unset (sl : Sl) (i : Nat) : Sl := ⟨sl.v.set i none, sl.lk && decide (i ≠ 0)⟩
def unS (i : Nat) : SR → SR
  | .nx sl st => .nx (sl.unset i) st
  | .bk sl st => .bk (sl.unset i) st
  | .ct sl st => .ct (sl.unset i) st
  | .rt d st => .rt d st
  | _ => .bad
def sTry (T : Tb) (x : Str) (i : Nat) (mb ms : SS) : SS := fun n sl st => match mb n sl st with
  | .exc (.exc c gs) sl st => if T.exm c x = true then unS i (ms n (sl.set i (.exc c gs)) st) else .bad
  | .exc _ _ _ => .bad
  | r => r
theorem RepS.unset {sl : Sl} {i : Nat} (rs : RepS G W H σ sl) : RepS G W H (σ.set i none) (sl.unset i) := by
  refine ⟨by simp [Sl.unset, rs.len], fun j d' e => ?_, fun z => ?_⟩
  case' refine_2 =>
    have z : (sl.lk && decide (i ≠ 0)) = true := z
    obtain ⟨z1, z2⟩ := (Bool.and_eq_true _ _).mp z
    rw [List.getElem?_set_ne (of_decide_eq_true z2)]
    exact rs.lk z1
  have e' : (sl.v.set i none)[j]? = some (some d') := e
  by_cases hj : j = i
  · subst hj
    by_cases hlt : j < sl.v.length
    · rw [List.getElem?_set_self hlt] at e'; cases e'
    · rw [List.getElem?_eq_none (by simpa using hlt)] at e'; cases e'
  · rw [List.getElem?_set_ne (Ne.symm hj)] at e'
    obtain ⟨v', h1, h2⟩ := rs.at_ j d' e'
    exact ⟨v', by rw [List.getElem?_set_ne (Ne.symm hj)]; exact h1, h2⟩
theorem En.tr (N : En G X Wx k T) {pn : List (Addr × Obj)} {xe : Value → Shared → Prop} {W : WX} (tk : Takes (X.tr pn xe) W) (po : PassesOwn (model X.prog X.w) X.A X.env xe) : En G (X.tr pn xe) W k T :=
  ⟨tk, N.rm, N.gd, N.calm, po, N.hK, N.fsx, N.fkx, N.kd, N.glo, N.fg, N.ins, N.exo, N.kit, N.xf, N.exm, N.nsub, N.tb, N.tu⟩
theorem exk_rep {e : D} {cls : Value} {dd : Option Addr} (w : WOk G L W H st) (rx : RepX G W H cls dd e) (ha : H a = none) : ∃ c gs, e = .exc c gs ∧ ExtE W H (W.add a) (upd H a (exk a cls dd)) ∧ WOk G L (W.add a) (upd H a (exk a cls dd)) st ∧ Sees W H (W.add a) (upd H a (exk a cls dd)) ∧ Rep G (W.add a) (upd H a (exk a cls dd)) (.ref a) e := by
  obtain ⟨c, gs, rfl, rfl, hx⟩ := rx
  have ht : ∀ ps, exk a (.ref (G.ga c)) dd ≠ .tbl ps := fun ps z => by unfold exk at z; cases z
  have se := add_sees (o := exk a (.ref (G.ga c)) dd) w ha
  refine ⟨c, gs, rfl, add_ext w ha, add_ok w ha ht, se, ?_⟩
  rcases hx with ⟨rfl, rfl⟩ | ⟨d, fs, rfl, f, hd, rf⟩
  · exact .exc0 (.inr rfl) upd_same
  · exact .exc (.inr rfl) (.inl f) upd_same (by rw [upd_ne (w.f_ne ha f)]; exact hd) (rf.see se)
theorem ev_try {x y : Str} {i : Nat} {body suite : List Stmt} {b0 : Stmt} {mb ms : SS} {np : Pos} (N : En G X Wx k T) (hs : X.stack = X.env :: X.outer := by rfl) (hf : X.env.frame = some X.env.locals := by rfl) (hex : X.ex = [] := by rfl) (hN : X.N.Nodup) (hi : X.N[i]? = some y) (hln : X.env.kindOf y = some .local) (hc : Names X x (.ref (G.ga x)))
    (hb : ∀ (W : WX) (pn : List (Addr × Obj)) (xe : Value → Shared → Prop), En G (X.tr pn xe) W k T → EvSs G (X.tr pn xe) W body mb) (hsu : ∀ (a : Addr) (pn : List (Addr × Obj)), EvSs G (X.suite a pn) WF (b0 :: suite) ms) :
    EvS G X Wx (.Try body [.ExceptHandler (some (.Name x np)) (some y) (b0 :: suite) pos'] [] [] pos) (sTry T x i mb ms) := by
  refine PS.imp (ps_tryT (tb := fun W => tS G X W mb) (ts := fun _ => tS G X WF ms) hs hf hN hi hln hc hex (fun W pn xe tk po => hb W pn xe (N.tr tk po)) hsu) fun Z σ H ⟨n, W, st, sl, hl, w, rs, h⟩ => ⟨n, W, st, sl, hl, w, rs, ?_⟩
  unfold sTry at h
  revert h
  cases mb n sl st with
  | nx sl' st' => exact id
  | rt d st' => exact id
  | bk sl' st' => exact id
  | ct sl' st' => exact id
  | bad => exact id
  | exc d sl' st' =>
    intro h cls dd σ' H' W' e' w' rs' rx
    cases d with
    | exc c gs =>
      have h : postS G X Wx n W H Z (if T.exm c x = true then unS i (ms n (sl'.set i (.exc c gs)) st') else .bad) := h
      split at h
      · rename_i hm
        have hcls : cls = .ref (G.ga c) := by
          obtain ⟨c', gs', q1, q2, _⟩ := rx
          cases q1
          exact q2
        refine ⟨by rw [hcls]; exact N.exm c x hm, fun a ha => ?_⟩
        obtain ⟨c', gs', q1, z1, z2, z3, z4⟩ := exk_rep w' rx ha
        have ee : Ext n W H (W'.add a) (upd H' a (exk a cls dd)) := e'.thenE z1 hl
        have hl2 : n ≤ (W'.add a).mu.length := Nat.le_trans hl ee.len
        refine ⟨n, W'.add a, st', sl'.set i (.exc c gs), hl2, z2, (rs'.see z3).set z4, ?_⟩
        have h := h.after ee hl
        revert h
        cases ms n (sl'.set i (.exc c gs)) st' with
        | nx sl2 st2 => exact fun h σ1 H1 W1 e1 w1 rs1 => h _ H1 W1 e1 w1 rs1.unset
        | bk sl2 st2 => exact fun h σ1 H1 W1 e1 w1 rs1 => h _ H1 W1 e1 w1 rs1.unset
        | ct sl2 st2 => exact fun h σ1 H1 W1 e1 w1 rs1 => h _ H1 W1 e1 w1 rs1.unset
        | rt d st2 => exact id
        | exc d sl2 st2 => exact False.elim
        | bad => exact False.elim
      · exact False.elim h
    | _ => exact False.elim h
theorem takesF : Takes X WF := fun u s' ⟨_, _, _, _, _, _, _, _, _, _, _, _, _, _, _, _, z⟩ => False.elim z
/-- .. without a name -/
def sTry0 (T : Tb) (x : Str) (mb ms : SS) : SS := fun n sl st => match mb n sl st with
  | .exc (.exc c _) sl st => if T.exm c x = true then (match ms n sl st with
      | .exc _ _ _ => .bad
      | r => r) else .bad
  | .exc _ _ _ => .bad
  | r => r
theorem ev_try0 {x : Str} {body suite : List Stmt} {b0 : Stmt} {mb ms : SS} {np : Pos} (N : En G X Wx k T) (hs : X.stack = X.env :: X.outer := by rfl) (hf : X.env.frame = some X.env.locals := by rfl) (hc : Names X x (.ref (G.ga x)))
    (hb : ∀ (W : WX) (pn : List (Addr × Obj)) (xe : Value → Shared → Prop), En G (X.tr pn xe) W k T → EvSs G (X.tr pn xe) W body mb) (hsu : ∀ (a : Addr) (pn : List (Addr × Obj)), EvSs G (X.suite a pn) WF (b0 :: suite) ms) :
    EvS G X Wx (.Try body [.ExceptHandler (some (.Name x np)) none (b0 :: suite) pos'] [] [] pos) (sTry0 T x mb ms) := by
  refine PS.imp (ps_try_only (tb := fun W => tS G X W mb) (ts := fun _ _ _ => tS G X WF ms) (Wout := WF) hs hf hc takesF (fun W pn xe tk po => hb W pn xe (N.tr tk po)) fun a oe cls d pn _ _ => hsu a ((a, oe) :: pn)) fun Z σ H ⟨n, W, st, sl, hl, w, rs, h⟩ => ⟨n, W, st, sl, hl, w, rs, ?_⟩
  unfold sTry0 at h
  revert h
  cases mb n sl st with
  | nx sl' st' => exact id
  | rt d st' => exact id
  | bk sl' st' => exact id
  | ct sl' st' => exact id
  | bad => exact id
  | exc d sl' st' =>
    intro h cls dd σ' H' W' e' w' rs' rx
    cases d with
    | exc c gs =>
      have h : postS G X Wx n W H Z (if T.exm c x = true then (match ms n sl' st' with
        | .exc _ _ _ => .bad
        | r => r) else .bad) := h
      split at h
      · rename_i hm
        have hcls : cls = .ref (G.ga c) := by
          obtain ⟨c', gs', q1, q2, _⟩ := rx
          cases q1
          exact q2
        refine ⟨true, by rw [hcls]; exact N.exm c x hm, fun _ a ha => ?_, fun z => nomatch z⟩
        refine ⟨n, W', st', sl', Nat.le_trans hl e'.len, w', rs', ?_⟩
        have h := h.after e' hl
        revert h
        cases ms n sl' st' with
        | nx sl2 st2 => exact id
        | bk sl2 st2 => exact id
        | ct sl2 st2 => exact id
        | rt d st2 => exact id
        | exc d sl2 st2 => exact False.elim
        | bad => exact False.elim
      · exact False.elim h
    | _ => exact False.elim h
end
end MP
set_option Elab.async false
set_option linter.all false
set_option maxRecDepth 100000
set_option maxHeartbeats 1000000
namespace MP
open PySem PySem.Spec PyProof.Rows L2 SP
section
variable {G : Gc} {X Y : Cx} {Wx : WX} {k n : Nat} {T : Tb} {L L' : Addr → V → Prop} {W W' W1 W2 W3 : Wd} {H H' H1 H2 H3 : Hp} {st st3 : Sto} {σ : L2.St} {pins : List (Addr × Obj)} {s : Shared} {Q : VK} {pos pos' apos p rp : Pos} {a : Addr} {Z : Ends} {e : Expr} {es : List Expr} {c : Str} {fl : List Str}
/-! ### calls of built-in functions -/
def cInt (ds : List D) : MM D := fun st => match ds with
  | [.int i] => .ok (.int i) st
  | [.bl b] => .ok (.int (if b then 1 else 0)) st
  | _ => .bad
theorem call_intS : CallS G X Wx (.type "int") cInt := callS_of call_int1 fun σ H x Q L W st ds w rl q => by
  unfold cInt at q
  split at q
  · cases rl with
    | cons r rr => cases rr; cases rep_int r; exact .inl ⟨_, rfl, q.same w (.int _)⟩
  · cases rl with
    | cons r rr => cases rr; cases rep_bl r; exact .inr ⟨_, rfl, q.same w (.int _)⟩
  · exact False.elim q
def cBool (ds : List D) : MM D := fun st => match ds with
  | [.int i] => .ok (.bl (i != 0)) st
  | [.bl b] => .ok (.bl b) st
  | _ => .bad
theorem call_boolS : CallS G X Wx (.type "bool") cBool := callS_of call_bool1 fun σ H x Q L W st ds w rl q => by
  unfold cBool at q
  split at q
  · cases rl with
    | cons r rr => cases rr; cases rep_int r; exact .inl ⟨_, rfl, q.same w (.bl _)⟩
  · cases rl with
    | cons r rr => cases rr; cases rep_bl r; exact .inr ⟨_, rfl, q.same w (.bl _)⟩
  · exact False.elim q
def cAbs (ds : List D) : MM D := fun st => match ds with
  | [.int i] => .ok (.int (if i < 0 then -i else i)) st
  | _ => .bad
theorem call_absI : CallS G X Wx (.builtin "abs") cAbs := callS_of call_abs fun σ H x Q L W st ds w rl q => by
  unfold cAbs at q
  split at q
  · cases rl with
    | cons r rr => cases rr; cases rep_int r; exact ⟨_, rfl, q.same w (.int _)⟩
  · exact False.elim q
/-- items of a list or tuple -/
def itemsOf (d : D) (st : Sto) : Option (List D) := match d with
  | .tup xs => some xs
  | .slst xs => some xs
  | d => seqOf d st
theorem items_at {x : V} {d : D} {xs : List D} (w : WOk G L W H st) (r : Rep G W H x d) (e : itemsOf d st = some xs) : ∃ a vs, x = .ref a ∧ (SqL X.K H a vs ∨ SqT X.K H a vs) ∧ RepL G W H vs xs := by
  unfold itemsOf at e
  split at e
  · cases e
    cases r with
    | tup f h r => exact ⟨_, _, rfl, .inr (SqT.of h), r⟩
  · cases e
    cases r with
    | slst f h r => exact ⟨_, _, rfl, .inl (.inl h), r⟩
  · obtain ⟨a, vs, rfl, h, r⟩ := seq_at w r e
    exact ⟨a, vs, rfl, .inl (SqL.of h), r⟩
def cLen (ds : List D) : MM D := fun st => match ds with
  | [.str z] => if z.length ≤ 1000000 then .ok (.int (z.length : Nat)) st else .bad
  | [d] => match itemsOf d st with
    | some xs => .ok (.int (xs.length : Nat)) st
    | none => .bad
  | _ => .bad
theorem call_lenS : CallS G X Wx (.builtin "len") cLen := callS_of call_len fun σ H x Q L W st ds w rl q => by
  unfold cLen at q
  split at q
  · split at q
    · rename_i z hz
      cases rl with
      | cons r rr => cases rr; cases rep_str r; exact ⟨_, z.length, rfl, ⟨small hz, rfl⟩, q.same w (.int _)⟩
    · exact False.elim q
  · split at q
    · rename_i d _ xs hx
      cases rl with
      | cons r rr =>
        cases rr
        obtain ⟨a, vs, rfl, hs, rv⟩ := items_at (X := X) w r hx
        rcases hs with hs | hs
        · exact ⟨_, vs.length, rfl, .inl ⟨vs, hs, rfl⟩, by rw [rv.len]; exact q.same w (.int _)⟩
        · exact ⟨_, vs.length, rfl, .inr ⟨vs, hs, rfl⟩, by rw [rv.len]; exact q.same w (.int _)⟩
    · exact False.elim q
  · exact False.elim q
def cList (ds : List D) : MM D := fun st => match ds with
  | [d] => match itemsOf d st with
    | some xs => .ok (.lst xs) st
    | none => .bad
  | _ => .bad
theorem call_listS : CallS G X Wx (.type "list") cList := callS_of call_list_of fun σ H x Q L W st ds w rl q => by
  unfold cList at q
  split at q
  · split at q
    · rename_i d xs hx
      cases rl with
      | cons r rr =>
        cases rr
        obtain ⟨a, vs, rfl, hs, rv⟩ := items_at (X := X) w r hx
        exact ⟨a, vs, rfl, hs, new_lst w rv q⟩
    · exact False.elim q
  · exact False.elim q
/-- a list that may change -/
def cListM (ds : List D) : MM D := fun st => match ds with
  | [d] => match itemsOf d st with
    | some xs => .ok (.mref st.length) (st ++ [.lst xs])
    | none => .bad
  | _ => .bad
theorem new_lstM {vs : List V} {ds : List D} (w : WOk G L W H st) (r : RepL G W H vs ds) (h : postE G L Wx σ W H Q (.ok (.mref st.length) (st ++ [.lst ds]))) : ∀ p, H p = none → Q (.ref p) (upd H p (.lst vs)) :=
  fun p hp => h _ _ (W.push p) (push_ext w hp) (push_ok (o := .lst vs) w hp (fun _ z => nomatch z) ⟨fun z => w.f_ne hp z rfl, vs, upd_same, r.see (push_ext w hp).sees⟩) (.mref (push_mref w p))
theorem call_listM : CallS G X Wx (.type "list") cListM := callS_of call_list_of fun σ H x Q L W st ds w rl q => by
  unfold cListM at q
  split at q
  · split at q
    · rename_i d xs hx
      cases rl with
      | cons r rr =>
        cases rr
        obtain ⟨a, vs, rfl, hs, rv⟩ := items_at (X := X) w r hx
        exact ⟨a, vs, rfl, hs, new_lstM w rv q⟩
    · exact False.elim q
  · exact False.elim q
def cTuple (ds : List D) : MM D := fun st => match ds with
  | [.tup xs] => .ok (.tup xs) st
  | [.slst xs] => .ok (.tup xs) st
  | [d] => match seqOf d st with
    | some xs => .ok (.tup xs) st
    | none => .bad
  | _ => .bad
theorem call_tupleS : CallS G X Wx (.type "tuple") cTuple := callS_of call_tuple_of fun σ H x Q L W st ds w rl q => by
  unfold cTuple at q
  split at q
  · cases rl with
    | cons r rr =>
      cases rr
      cases r with
      | tup f h r => exact ⟨_, _, rfl, .inr ⟨SqT.of h, q.same w (.tup f h r)⟩⟩
  · cases rl with
    | cons r rr =>
      cases rr
      cases r with
      | slst f h r => exact ⟨_, _, rfl, .inl ⟨.inl h, new_tup w r q⟩⟩
  · split at q
    · rename_i d _ _ xs hx
      cases rl with
      | cons r rr =>
        cases rr
        obtain ⟨a, vs, rfl, h, rv⟩ := seq_at w r hx
        exact ⟨a, vs, rfl, .inl ⟨SqL.of h, new_tup w rv q⟩⟩
    · exact False.elim q
  · exact False.elim q
/-- the text of an int -/
def decS (i : Int) : Str := (toString i : String)
def cStr (ds : List D) : MM D := fun st => match ds with
  | [.int i] => if i.natAbs.log2 < 1920 then .ok (.str (toString i : String)) st else .bad
  | [.str z] => .ok (.str z) st
  | _ => .bad
theorem call_strI : CallS G X Wx (.type "str") cStr := callS_of (call_or call_str_int SkE.call_str_str) fun σ H x Q L W st ds w rl q => by
  unfold cStr at q
  split at q
  · split at q
    · rename_i i hi
      cases rl with
      | cons r rr => cases rr; cases rep_int r; exact .inl ⟨_, rfl, hi, q.same w (.str _)⟩
    · exact False.elim q
  · cases rl with
    | cons r rr => cases rr; cases rep_str r; exact .inr ⟨_, rfl, q.same w (.str _)⟩
  · exact False.elim q
/-! ### == of single values -/
def scalD : D → D → Option Bool
  | .non, .non => some true | .non, .int _ => some false | .int _, .non => some false | .non, .bl _ => some false | .bl _, .non => some false | .non, .str _ => some false | .str _, .non => some false
  | .int i, .int j => some (decide (i = j)) | .bl a, .bl b => some (decide (a = b)) | .str a, .str b => some (decide (a = b))
  | .int _, .str _ => some false | .str _, .int _ => some false | .bl _, .str _ => some false | .str _, .bl _ => some false
  | _, _ => none
def eqS (d1 d2 : D) : MM D := fun st => match scalD d1 d2 with
  | some b => .ok (.bl b) st
  | none => .bad
def neS (d1 d2 : D) : MM D := fun st => match scalD d1 d2 with
  | some b => .ok (.bl (!b)) st
  | none => .bad
theorem scal_at {x y : V} {d1 d2 : D} {b : Bool} (r1 : Rep G W H x d1) (r2 : Rep G W H y d2) (e : scalD d1 d2 = some b) : scal x y = true ∧ decide (x = y) = b := by
  unfold scalD at e
  split at e <;> cases e <;> cases r1 <;> cases r2 <;> refine ⟨rfl, ?_⟩ <;> first | rfl | simp
theorem s_eqS : OpS G X Wx (compareOp .Eq) eqS := opS_of op_eq fun σ H x y Q L W st d1 d2 w r1 r2 q => by
  unfold eqS at q
  split at q
  · rename_i b hb
    obtain ⟨h1, h2⟩ := scal_at r1 r2 hb
    exact ⟨h1, by rw [h2]; exact q.same w (.bl _)⟩
  · exact False.elim q
theorem s_neS : OpS G X Wx (compareOp .NotEq) neS := opS_of op_ne fun σ H x y Q L W st d1 d2 w r1 r2 q => by
  unfold neS at q
  split at q
  · rename_i b hb
    obtain ⟨h1, h2⟩ := scal_at r1 r2 hb
    exact ⟨h1, by rw [h2]; exact q.same w (.bl _)⟩
  · exact False.elim q
end
end MP
set_option Elab.async false
set_option linter.all false
set_option maxRecDepth 100000
set_option maxHeartbeats 1000000
namespace MP
open PySem PySem.Spec PyProof.Rows L2 SP
/-! ### facts that are seen by reckoning -/
def visB (sc : Scope) (x : Str) : Bool := match sc.names.lookup x with
  | some .local => true | some .cell => true | some .free => true | _ => false
theorem vis_of {sc : Scope} {x : Str} (h : visB sc x = true) : Vis sc x := by
  unfold visB at h
  split at h
  · exact .inl ‹_›
  · exact .inr (.inl ‹_›)
  · exact .inr (.inr ‹_›)
  · cases h
def locB (sc : Scope) (x : Str) : Bool := match sc.names.lookup x with
  | some .local => true | some .cell => true | _ => false
theorem loc_of {sc : Scope} {x : Str} (h : locB sc x = true) : Loc sc x := by
  unfold locB at h
  split at h
  · exact .inl ‹_›
  · exact .inr ‹_›
  · cases h
def blkB (N : List Str) (sc scope : Scope) (own : List (Str × Nat)) : Bool :=
  decide (scope.kind = .function) && (scope.names.all (fun y => decide (scope.names.lookup y.1 = some y.2)) && (own.all (fun p => decide (N[p.2]? = some p.1)) &&
    (scope.names.all (fun y => !decide (y.2 = .free) || (decide (sc.names.lookup y.1 = some .cell) || decide (sc.names.lookup y.1 = some .free))) &&
    scope.names.all (fun y => !(decide (y.2 = .local) || decide (y.2 = .cell)) || (decide (y.1 ∈ own.map (·.1)) || !decide (y.1 ∈ N))))))
theorem blk_of {N : List Str} {sc scope : Scope} {own : List (Str × Nat)} (h : blkB N sc scope own = true) : BlkOk N sc scope own := by
  unfold blkB at h
  obtain ⟨h1, h⟩ := band h
  obtain ⟨h2, h⟩ := band h
  obtain ⟨h3, h⟩ := band h
  obtain ⟨h4, h5⟩ := band h
  refine ⟨of_decide_eq_true h1, fun y hy => of_decide_eq_true (List.all_eq_true.mp h2 y hy), fun p hp => of_decide_eq_true (List.all_eq_true.mp h3 p hp), fun y hy e => ?_, fun y hy e => ?_⟩
  · have := List.all_eq_true.mp h4 y hy
    simpa [e] using this
  · have := List.all_eq_true.mp h5 y hy
    rcases e with e | e <;> simpa [e] using this
def swB (scope : Scope) (y : Str) : Bool := scope.names.any fun (n, k) => n == y && (k == .local || k == .cell)
theorem sw_of {elt : Expr} {gs : List Comprehension} {scope : Scope} {pos py : Pos} {y : Str} {l : Nat} {env : Env} (hk : env.scope.kind = .function) (hy : env.scope.names.lookup y = some .local) (hl : (py.line == pos.line) = true)
    (ha : swB scope y = false) : swapsWith (.ListComp elt gs scope pos) (some (.Name y py)) l env = pure true := sw_true hk hy hl ha
/-! ### what is not walked -/
def eBad : EE := fun _ _ => .bad
def tBad : ET := fun _ _ => .bad
def sBad : SS := fun _ _ _ => .bad
def iBad : EI := fun _ _ => .bad
section
variable {G : Gc} {X : Cx} {Wx : WX} {k : Nat} {T : Tb} {pos p : Pos} {e : Expr} {es : List Expr} {x : Str} {ma : EA}
theorem ev_bad : EvE G X Wx e eBad := ⟨fun pins s σ H Q I ⟨W, st, sl, w, rs, h⟩ => False.elim h⟩
theorem et_bad : EvT G X Wx e tBad := ⟨fun pins s σ H Q I ⟨W, st, sl, w, rs, h⟩ => False.elim h⟩
theorem es_bad {s : Stmt} : EvS G X Wx s sBad := ⟨fun pins s σ H Z I ⟨n, W, st, sl, hl, w, rs, h⟩ => False.elim h⟩
theorem ei_bad {tg : Expr} : EvI G X Wx tg e iBad := ⟨fun pins s σ H R I ⟨W, st, sl, w, rs, h⟩ => False.elim h⟩
/-! ### names of the module -/
theorem En.free (N : En G X Wx k T) (h : T.glo x = some .free) : X.mg x = none := N.glo x _ h
def gloB (T : Tb) (x : Str) : Bool := match T.glo x with
  | some .fn => true | some .cls => true | some .xc => true | _ => false
theorem En.glob (N : En G X Wx k T) (h : gloB T x = true) : X.mg x = some (.ref (G.ga x)) := by
  unfold gloB at h
  split at h
  · rename_i q; exact (N.glo x _ q).1
  · rename_i q; exact (N.glo x _ q).1
  · rename_i q; exact N.glo x _ q
  · cases h
theorem ev_gloN (N : En G X Wx k T) (h : gloB T x = true) (hg : Gl X x) (hd : (x == ("__debug__" : Str)) = false := by decide) : EvE G X Wx (.Name x pos) (eC (.glo x)) := ev_glo hg (N.glob h) hd
theorem ev_strN {z : Str} (N : En G X Wx k T) (h : T.glo x = some (.str z)) (hg : Gl X x) (hd : (x == ("__debug__" : Str)) = false := by decide) : EvE G X Wx (.Name x pos) (eC (.str z)) := by
  obtain ⟨t, e⟩ := N.glo x _ h
  exact ev_mstr hg e hd
theorem ev_intN {z : Int} (N : En G X Wx k T) (h : T.glo x = some (.int z)) (hg : Gl X x) (hd : (x == ("__debug__" : Str)) = false := by decide) : EvE G X Wx (.Name x pos) (eC (.int z)) := by
  obtain ⟨t, e⟩ := N.glo x _ h
  exact ev_mint hg e hd
theorem ev_tyN {Ty : String} (N : En G X Wx k T) (h : T.glo x = some .free) (hg : Gl X x) (hv : bootBuiltins x = some (.type Ty)) (hn : x ≠ "__name__" := by decide) (hd : (x == ("__debug__" : Str)) = false := by decide) : EvE G X Wx (.Name x pos) (eC (.ty Ty)) := ev_ty hg (N.free h) hv hn hd
theorem En.nam (N : En G X Wx k T) (h : gloB T x = true) (hg : Gl X x) (hd : (x == ("__debug__" : Str)) = false := by decide) : Names X x (.ref (G.ga x)) := ⟨hg, hd, .inl (N.glob h)⟩
/-! ### calls by name -/
theorem Room.two {A : Around} (h : Room (k + 2) A) : Room k A := h.mono (Nat.le_add_right _ _)
theorem En.ct (N : En G X Wx k T) : Ct X Wx k := ⟨N.tk, Room.two N.rm, N.gd, N.calm, N.po⟩
theorem ev_callN (N : En G X Wx k T) (h : T.glo x = some .fn) (hg : Gl X x) (ha : EvA G X Wx (e :: es) ma) (hdb : (x == ("__debug__" : Str)) = false := by decide)
    (he : starEach (e :: es) X.env = (false, eval e X.env) :: starEach es X.env := by rfl) (hpl : (backTo pos (starEach es X.env)).any (·.1) = false := by rfl) : EvE G X Wx (.Call (.Name x p) (e :: es) [] pos) (eCallD (T.run x) ma) :=
  ev_call N.ct N.hK hg ⟨(N.glo x _ h).1, (N.glo x _ h).2⟩ (N.fg x h ▸ N.fs x) ha hdb he hpl
theorem ev_callN0 (N : En G X Wx k T) (h : T.glo x = some .fn) (hg : Gl X x) (hdb : (x == ("__debug__" : Str)) = false := by decide) : EvE G X Wx (.Call (.Name x p) [] [] pos) (eCallD (T.run x) aNil) :=
  ev_call0 N.ct N.hK hg ⟨(N.glo x _ h).1, (N.glo x _ h).2⟩ (N.fg x h ▸ N.fs x) hdb
theorem ev_makeN (N : En G X Wx k T) (h : T.glo x = some .cls) (hg : Gl X x) (ha : EvA G X Wx (e :: es) ma) (hdb : (x == ("__debug__" : Str)) = false := by decide)
    (he : starEach (e :: es) X.env = (false, eval e X.env) :: starEach es X.env := by rfl) (hpl : (backTo pos (starEach es X.env)).any (·.1) = false := by rfl) : EvE G X Wx (.Call (.Name x p) (e :: es) [] pos) (eCallD (mkI T x) ma) :=
  ev_make N ⟨(N.glo x _ h).2.2, (N.glo x _ h).2.1, (N.glo x _ h).1⟩ hg ha hdb he hpl
/-! ### two and three names at once -/
theorem ev_par {i j : Nat} {x y : Str} {a b : Expr} {px py pt pos : Pos} {kt k2 pt2} (hc : X.calm = true) (hN : X.N.Nodup) (hi : X.N[i]? = some x) (hj : X.N[j]? = some y) (hij : i ≠ j)
    (hx : X.env.scope.names.lookup x = some .local) (hy : X.env.scope.names.lookup y = some .local) (ha : EvA G X Wx [a, b] ma)
    (hw : swappedStores [.Tuple [.Name x px, .Name y py] kt pt] (.Tuple [a, b] k2 pt2) X.env = pure (some [x, y]))
    (hs : swapsWithSole [.Tuple [.Name x px, .Name y py] kt pt] (.Tuple [a, b] k2 pt2) pos.line X.env = pure false := by rfl) :
    EvS G X Wx (.Assign [.Tuple [.Name x px, .Name y py] kt pt] (.Tuple [a, b] k2 pt2) pos) (sPar i j ma) :=
  PS.imp (ps_par hc hN hi hj hij hx hy ha hw hs) fun Z σ H ⟨n, W, st, sl, hl, w, rs, h⟩ => tG_imp (oneS (rel := RepL G) hl w rs h) fun v H1 ⟨W1, st1, d, hl1, e1, w1, rs1, r, _, q⟩ => by
    match d, q with
    | [d1, d2], q =>
      cases r with
      | cons r1 r =>
        cases r with
        | cons r2 r =>
            cases r
            exact ⟨_, _, rfl, q _ H1 W1 Ext.refl w1 ((rs1.set r1).set r2)⟩
def sPar3 (i j l : Nat) (ma : EA) : SS := fun _ sl st => toS (ma sl st) sl fun ds st => match ds with
  | [d1, d2, d3] => .nx (((sl.set i d1).set j d2).set l d3) st
  | _ => .bad
theorem ev_par3 {i j l : Nat} {x y z : Str} {a b c : Expr} {px py pz pt pos : Pos} {kt k2 pt2} (hc : X.calm = true) (hN : X.N.Nodup) (hi : X.N[i]? = some x) (hj : X.N[j]? = some y) (hl : X.N[l]? = some z) (hij : i ≠ j) (hil : i ≠ l) (hjl : j ≠ l)
    (hx : X.env.scope.names.lookup x = some .local) (hy : X.env.scope.names.lookup y = some .local) (hz : X.env.scope.names.lookup z = some .local) (ha : EvA G X Wx [a, b, c] ma)
    (hw : swappedStores [.Tuple [.Name x px, .Name y py, .Name z pz] kt pt] (.Tuple [a, b, c] k2 pt2) X.env = pure (some [x, y, z]))
    (hs : swapsWithSole [.Tuple [.Name x px, .Name y py, .Name z pz] kt pt] (.Tuple [a, b, c] k2 pt2) pos.line X.env = pure false := by rfl) :
    EvS G X Wx (.Assign [.Tuple [.Name x px, .Name y py, .Name z pz] kt pt] (.Tuple [a, b, c] k2 pt2) pos) (sPar3 i j l ma) :=
  PS.imp (ps_par3 hc hN hi hj hl hij hil hjl hx hy hz ha hw hs) fun Z σ H ⟨n, W, st, sl, hl, w, rs, h⟩ => tG_imp (oneS (rel := RepL G) hl w rs h) fun v H1 ⟨W1, st1, d, hl1, e1, w1, rs1, r, _, q⟩ => by
    match d, q with
    | [d1, d2, d3], q =>
      cases r with
      | cons r1 r =>
        cases r with
        | cons r2 r =>
          cases r with
          | cons r3 r =>
            cases r
            exact ⟨_, _, _, rfl, q _ H1 W1 Ext.refl w1 (((rs1.set r1).set r2).set r3)⟩
end
end MP
set_option Elab.async false
set_option linter.all false
set_option maxRecDepth 100000
set_option maxHeartbeats 1000000
namespace MP
open PySem PySem.Spec PyProof.Rows L2 SP
/-! ### an int compared with an own object: the object's reflected sign -/
def IntCmpNot (op : CmpOp) : Prop := ∀ (prog : Program) (w : World) (A : Around) (E : Value → Shared → Prop) (s : Shared) (x : Addr) (ox : Obj) (i : Int) (t : Tok) (Q : Option Value → Shared → Prop), s.heap.get? x = some ox → (∀ p, ox.data ≠ .prim p) → Q none s →
  wpAny (model prog w) A (tryCompare (.int i t) (cmpInfo op).2.1 (.ref x)) Q E s
theorem icn {op : CmpOp} {nm : Str} {id : String} (hn : (cmpInfo op).2.1 = nm) (sl : Slot "int" nm id)
    (hc : ∀ (prog : Program) (w : World) (A : Around) (s : Shared) (x : Addr) (ox : Obj) (i : Int) (t : Tok) (Q : Value → Shared → Prop) (E : Value → Shared → Prop), s.heap.get? x = some ox → (∀ p, ox.data ≠ .prim p) → Q .notImplemented s → wpAny (model prog w) A (call (.builtin id) [.int i t, .ref x]) Q E s) : IntCmpNot op := by
  intro prog w A E s x ox i t Q h hd q
  rw [hn]
  unfold tryCompare
  refine wpAny_bind ?_
  refine wpAny_callSpecialIfBound?_slot (typeIs_int s i t) sl ?_
  exact hc _ _ _ _ _ _ _ _ _ _ h hd (wpAny_pure q)
theorem icn_lt : IntCmpNot .Lt := icn rfl PySem.F.slot_int_lt fun prog w A s x ox i t Q E h hd q => by
  with_reducible refine wpAny_call_entry PySem.F.slot_int_lt (typeIs_int s i t) PySem.F.entry_int_lt ?_ (PySem.F.args_int_lt_2 _ _)
  unfold Builtin.«int.__lt__»
  exact intBin_ref h hd ⟨_, rfl, q⟩
theorem icn_le : IntCmpNot .LtE := icn rfl PySem.F.slot_int_le fun prog w A s x ox i t Q E h hd q => by
  with_reducible refine wpAny_call_entry PySem.F.slot_int_le (typeIs_int s i t) PySem.F.entry_int_le ?_ (PySem.F.args_int_le_2 _ _)
  unfold Builtin.«int.__le__»
  exact intBin_ref h hd ⟨_, rfl, q⟩
theorem icn_gt : IntCmpNot .Gt := icn rfl PySem.F.slot_int_gt fun prog w A s x ox i t Q E h hd q => by
  with_reducible refine wpAny_call_entry PySem.F.slot_int_gt (typeIs_int s i t) PySem.F.entry_int_gt ?_ (PySem.F.args_int_gt_2 _ _)
  unfold Builtin.«int.__gt__»
  exact intBin_ref h hd ⟨_, rfl, q⟩
theorem icn_ge : IntCmpNot .GtE := icn rfl PySem.F.slot_int_ge fun prog w A s x ox i t Q E h hd q => by
  with_reducible refine wpAny_call_entry PySem.F.slot_int_ge (typeIs_int s i t) PySem.F.entry_int_ge ?_ (PySem.F.args_int_ge_2 _ _)
  unfold Builtin.«int.__ge__»
  exact intBin_ref h hd ⟨_, rfl, q⟩
theorem icn_eq : IntCmpNot .Eq := icn rfl PySem.F.slot_int_eq fun prog w A s x ox i t Q E h hd q => by
  with_reducible refine wpAny_call_entry PySem.F.slot_int_eq (typeIs_int s i t) PySem.F.entry_int_eq ?_ (PySem.F.args_int_eq_2 _ _)
  unfold Builtin.«int.__eq__»
  exact intBin_ref h hd ⟨_, rfl, q⟩
theorem icn_ne : IntCmpNot .NotEq := icn rfl PySem.F.slot_int_ne fun prog w A s x ox i t Q E h hd q => by
  with_reducible refine wpAny_call_entry PySem.F.slot_int_ne (typeIs_int s i t) PySem.F.entry_int_ne ?_ (PySem.F.args_int_ne_2 _ _)
  unfold Builtin.«int.__ne__»
  exact intBin_ref h hd ⟨_, rfl, q⟩
section
variable {prog : Program} {w : World} {A : Around} {E : Value → Shared → Prop} {s : Shared} {K : PySem.W.Frag} {x C f : Addr} {ox : Obj} {od : Option Obj}
theorem cmp_right0 {op : CmpOp} {i : Int} {t : Tok} {Q : Value → Shared → Prop} (hu : A.units < cLine) (X : K.In s.heap) (I : PySem.W.InstAt s.heap x ox C od) (hsub : PySem.W.subIn K (.ref C) (.type "int") = some false)
    (hl : ∀ {Q : Option Value → Shared → Prop}, Q none s → wpAny (model prog w) A (tryCompare (.int i t) (cmpInfo op).2.1 (.ref x)) Q E s)
    (one : wpAny (model prog w) A (tryCompare (.ref x) (cmpInfo op).2.2 (.int i t)) (fun r s' => ∃ v, r = some v ∧ Q v s') E s) : wpAny (model prog w) A (richCompare op (.int i t) (.ref x)) Q E s := by
  unfold richCompare
  have e0 : oneThing? op (.int i t) (.ref x) = none := by cases op <;> rfl
  simp only [e0]
  refine wpAny_holding (wpAny_bind (wpAny_cRoomFor hu ?_))
  refine wpAny_bind (m := typeOf (.int i t)) (wpAny_pure (wpAny_bind (I.type.here ?_)))
  split
  · refine wpAny_bind ((PySem.W.looks_subIn X hsub).here ?_)
    simp only [Bool.false_eq_true, if_false]
    refine wpAny_bind (hl ?_)
    simp only [Bool.not_false, if_true]
    refine wpAny_bind (wpAny_mono one (fun r s' z => ?_) fun _ _ e => e)
    obtain ⟨v, rfl, hq⟩ := z
    exact wpAny_pure hq
  · refine wpAny_bind (wpAny_pure ?_)
    simp only [Bool.false_eq_true, if_false]
    refine wpAny_bind (hl ?_)
    simp only [Bool.not_false, if_true]
    refine wpAny_bind (wpAny_mono one (fun r s' z => ?_) fun _ _ e => e)
    obtain ⟨v, rfl, hq⟩ := z
    exact wpAny_pure hq
end
def mCmpR (T : Tb) (op : CmpOp) (d1 d2 : D) : MM D := fun st => match d1 with
  | .int _ => match ownFn T (cmpInfo op).2.2 d2 st with
    | some (_, q) => T.run q [d2, d1] st
    | none => .bad
  | _ => .bad
def mNeR (T : Tb) (d1 d2 : D) : MM D := fun st => (mCmpR T .Eq d1 d2 st).bind fun r st => match r with
  | .bl b => .ok (.bl (!b)) st
  | _ => .bad
section
variable {G : Gc} {X : Cx} {Wx : WX} {k : Nat} {T : Tb}
theorem s_cmpR (N : En G X Wx k T) {op : CmpOp} (hop : ∀ a b, compareOp op a b = richCompare op a b) (hi : IntCmpNot op) : OpS G X Wx (compareOp op) (mCmpR T op) := by
  intro pins s σ H x y v u Q L W st d1 d2 I rx ry hL w r1 r2 h
  have hr : Room k X.A := N.rm.mono (by omega)
  unfold mCmpR at h
  split at h
  · rename_i i
    split at h
    · rename_i c q ho
      obtain ⟨a, dx, fs, rfl, ea, IO, M⟩ := own_at N w r2 ho
      obtain rfl : u = Value.ref a := ry
      cases rep_int r1
      obtain ⟨t, rfl⟩ := (show ∃ t, v = Value.int i t from rx)
      obtain ⟨od, J⟩ := ins_inst I ea
      rw [hop]
      refine cmp_right0 hr.units0 I.kIn J (IO.nb "int" (by decide)) (fun q => hi _ _ _ _ _ _ _ _ _ _ J.at_ (fun p e => by cases e) q) ?_
      unfold tryCompare
      refine wpAny_bind (PySem.W.ifBound_K I.kIn J M.at_ M.fn ?_)
      refine wpAny_mono (wpAny_call (N.call (us := [.ref a, .int i t]) (vs := [.ref a, .int i]) hr N.gd I.env0 I (.cons rfl (.cons ⟨t, rfl⟩ .nil)) hL w (.two_ r2 r1) h)) (fun w s' z => ?_) fun _ _ x => x
      have z := back_S z
      cases w <;> first | exact z.elim | exact wpAny_pure ⟨_, rfl, z⟩
    · exact False.elim h
  · exact False.elim h
theorem s_neR (N : En G X Wx k T) : OpS G X Wx (compareOp .NotEq) (mNeR T) := by
  intro pins s σ H x y v u Q L W st d1 d2 I rx ry hL w r1 r2 h
  have hr1 : Room (k + 1) X.A := N.rm.mono (by omega)
  unfold mNeR at h
  replace h := post.bind (rel' := Rep G) h
  unfold mCmpR at h
  split at h
  · rename_i i
    split at h
    · rename_i c q ho
      obtain ⟨a, dx, fs, rfl, ea, IO, M⟩ := own_at N w r2 ho
      obtain rfl : u = Value.ref a := ry
      cases rep_int r1
      obtain ⟨t, rfl⟩ := (show ∃ t, v = Value.int i t from rx)
      obtain ⟨od, J⟩ := ins_inst I ea
      have KX := I.kIn
      have hu0 : X.A.units < cLine := hr1.units0
      have hu1 : X.A.in1.units < cLine := hr1.in1.units0
      refine cmp_right0 (op := .NotEq) hr1.units0 I.kIn J (IO.nb "int" (by decide)) (fun q => icn_ne _ _ _ _ _ _ _ _ _ _ J.at_ (fun p e => by cases e) q) ?_
      show wpAny (model X.prog X.w) X.A (tryCompare (.ref a) "__ne__" (.int i t)) (fun r s' => ∃ v, r = some v ∧ EP X pins σ Q v s') X.xe s
      unfold tryCompare
      refine wpAny_bind (bound_builtin KX J IO.ne slot_object_ne.bind ?_)
      refine wpAny_call (codeAny_call_builtin slot_object_ne.plain PySem.F.cmpEntry_ne (PySem.W.check_slot (i := "object.__ne__") (owner := "object") (n := "__ne__") (by decide +kernel) (by decide +kernel) (J.type.andThen (PySem.W.looks_mroIn KX IO.hm)) (PySem.F.cmpArgs_ne _ _) ?_))
      unfold Builtin.«object.__ne__»
      refine wpAny_bind (m := slotArgs "__ne__" 1 _) (wpAny_pure ?_)
      refine wpAny_bind (m := cRoomFor _ _) (wpAny_cRoomFor hu1 ?_)
      refine wpAny_bind (m := callSpecialIfBound? (.ref a) (Str.ofString "__eq__") _) (PySem.W.ifBound_K KX J (show PySem.W.findIn X.K (.ref (G.ga c)) "__eq__" = _ from M.at_) M.fn ?_)
      refine wpAny_mono (wpAny_call (N.call (us := [.ref a, .int i t]) (vs := [.ref a, .int i]) hr1.in1 N.gd I.env0.in1 I (.cons rfl (.cons ⟨t, rfl⟩ .nil)) hL w (.two_ r2 r1) h)) (fun w s' z => ?_) fun _ _ x => x
      obtain ⟨z', H', I', rz, W1, st1, d, e1, w1, rd, _, q1⟩ := z
      cases d with
      | bl b =>
        cases rep_bl rd
        cases (show w = Value.bool b from rz)
        refine wpAny_bind (m := truthy (.bool b)) (wpAny_truthy_bool ?_)
        refine wpAny_pure ?_
        exact wpAny_pure ⟨_, rfl, .bl (!b), H', I', rfl, q1.same w1 (.bl _)⟩
      | _ => exact False.elim q1
    · exact False.elim h
  · exact False.elim h
end
end MP
set_option Elab.async false
set_option linter.all false
set_option maxRecDepth 100000
set_option maxHeartbeats 1000000
namespace MP
open PySem PySem.Spec PyProof.Rows L2 SP
/-! ### data: trees of None, bools, ints, texts, lists, tuples -/
mutual
def D.pd : D → Option PyData
  | .non => some .none | .bl b => some (.bool b) | .int i => some (.int i) | .str x => some (.str x)
  | .tup xs => (pdL xs).map .tuple | .lst xs => (pdL xs).map .list | .slst xs => (pdL xs).map .list
  | _ => none
def pdL : List D → Option (List PyData)
  | [] => some []
  | d :: ds => match d.pd, pdL ds with
    | some a, some b => some (a :: b)
    | _, _ => none
end
def pdT (d : D) (st : Sto) : Option PyData := match d with
  | .mref k => match seqOf (.mref k) st with
    | some xs => (pdL xs).map .list
    | none => none
  | d => d.pd
section
variable {G : Gc} {X : Cx} {W : Wd} {H : Hp} {K : PySem.W.Frag} {L : Addr → V → Prop} {st : Sto}
mutual
theorem Rep.dp : ∀ {d : D} {v : V} {p : PyData}, Rep G W H v d → d.pd = some p → Dp K H v p
  | .non, _, _, r, e => by cases r; cases e; exact .non
  | .bl b, _, _, r, e => by cases r; cases e; exact .bl b
  | .int i, _, _, r, e => by cases r; cases e; exact .int i
  | .str x, _, _, r, e => by cases r; cases e; exact .str x
  | .tup xs, _, _, r, e => by
    unfold D.pd at e
    cases q : pdL xs with
    | none => rw [q] at e; cases e
    | some ys => rw [q] at e; cases e; cases r with | tup f h r => exact .tup (SqT.of h) (RepL.dp r q)
  | .lst xs, _, _, r, e => by
    unfold D.pd at e
    cases q : pdL xs with
    | none => rw [q] at e; cases e
    | some ys => rw [q] at e; cases e; cases r with | lst f h r => exact .lst (SqL.of h) (RepL.dp r q)
  | .slst xs, _, _, r, e => by
    unfold D.pd at e
    cases q : pdL xs with
    | none => rw [q] at e; cases e
    | some ys => rw [q] at e; cases e; cases r with | slst f h r => exact .lst (.inl h) (RepL.dp r q)
  | .ty _, _, _, r, e => by cases e
  | .glo _, _, _, r, e => by cases e
  | .dic _, _, _, r, e => by cases e
  | .ins _ _, _, _, r, e => by cases e
  | .exc _ _, _, _, r, e => by cases e
  | .mref _, _, _, r, e => by cases e
  | .lam _ _, _, _, r, e => by cases e
theorem RepL.dp : ∀ {ds : List D} {vs : List V} {ps : List PyData}, RepL G W H vs ds → pdL ds = some ps → DpAll K H vs ps
  | [], _, _, r, e => by cases r; cases e; exact .nil
  | d :: ds, _, _, r, e => by
    unfold pdL at e
    split at e
    · rename_i a b e1 e2
      cases e
      cases r with
      | cons r1 r2 => exact .cons (Rep.dp r1 e1) (RepL.dp r2 e2)
    · cases e
end
theorem Rep.dpT {d : D} {v : V} {p : PyData} (w : WOk G L W H st) (r : Rep G W H v d) (e : pdT d st = some p) : Dp K H v p := by
  unfold pdT at e
  split at e
  · split at e
    · rename_i xs q
      obtain ⟨a, vs, rfl, h, r'⟩ := seq_at w r q
      cases q2 : pdL xs with
      | none => rw [q2] at e; cases e
      | some ys => rw [q2] at e; cases e; exact .lst (SqL.of h) (r'.dp q2)
    · cases e
  · exact r.dp e
end
def eqD (d1 d2 : D) : MM D := fun st => match pdT d1 st, pdT d2 st with
  | some a, some b => if SeqAt.shaped a = true ∧ SeqAt.shaped b = true then .ok (.bl (PyData.eqv a b)) st else .bad
  | _, _ => .bad
def neD (d1 d2 : D) : MM D := fun st => match pdT d1 st, pdT d2 st with
  | some a, some b => if SeqAt.shaped a = true ∧ SeqAt.shaped b = true then .ok (.bl (!PyData.eqv a b)) st else .bad
  | _, _ => .bad
def b_repr (T : Tb) (ds : List D) : MM D := fun st => match ds with
  | [.int i] => if i.natAbs.log2 < 1920 then .ok (.str (toString i : String)) st else .bad
  | [d] => match d with
    | .non => .bad | .bl _ => .bad | .str _ => .bad
    | d => match pdT d st with
      | some p => if p.showable = true ∧ p.depth ≤ 60 ∧ p.hasDict = false ∧ p.shown.length ≤ 1000000 then .ok (.str p.shown) st else .bad
      | none => .bad
  | _ => .bad
section
variable {G : Gc} {X : Cx} {Wx : WX} {k : Nat} {T : Tb}
theorem s_eqD (N : En G X Wx k T) : OpS G X Wx (compareOp .Eq) eqD := by
  intro pins s σ H x y v u Q L W st d1 d2 I rx ry hL w r1 r2 h
  unfold eqD at h
  split at h
  · rename_i a b e1 e2
    split at h
    · rename_i hs
      obtain ⟨as, ra⟩ := Dp.reads I a x v (r1.dpT w e1) rx
      obtain ⟨bs, rb⟩ := Dp.reads I b y u (r2.dpT w e2) ry
      exact SeqAt.compareEq_shaped ra rb hs.1 hs.2 (N.rm.units) ⟨.bl _, H, I, rfl, h.same w (.bl _)⟩
    · exact False.elim h
  · exact False.elim h
theorem s_neD (N : En G X Wx k T) : OpS G X Wx (compareOp .NotEq) neD := by
  intro pins s σ H x y v u Q L W st d1 d2 I rx ry hL w r1 r2 h
  unfold neD at h
  split at h
  · rename_i a b e1 e2
    split at h
    · rename_i hs
      obtain ⟨as, ra⟩ := Dp.reads I a x v (r1.dpT w e1) rx
      obtain ⟨bs, rb⟩ := Dp.reads I b y u (r2.dpT w e2) ry
      exact SeqAt.compareNe_shaped ra rb hs.1 hs.2 (N.rm.units) ⟨.bl _, H, I, rfl, h.same w (.bl _)⟩
    · exact False.elim h
  · exact False.elim h
theorem c_repr (N : En G X Wx k T) : CallS G X Wx (.builtin "repr") (b_repr T) := by
  intro pins s σ H xs us Q L W st ds I rx hL w r h
  unfold b_repr at h
  split at h
  · split at h
    · rename_i i hi
      refine SkE.call_repr_int pins s σ H xs us Q I rx ?_
      cases r with
      | cons r1 r2 =>
        cases r2
        cases rep_int r1
        exact ⟨_, rfl, hi, h.same w (.str _)⟩
    · exact False.elim h
  · rename_i d hd
    have key : ∀ p, pdT d st = some p → (p.showable = true ∧ p.depth ≤ 60 ∧ p.hasDict = false ∧ p.shown.length ≤ 1000000) → postE G L Wx σ W H Q (.ok (.str p.shown) st) → (∀ v, Rep G W H v d → ∃ a, v = .ref a) → wpAny (model X.prog X.w) X.A (call (.builtin "repr") us) (EP X pins σ Q) X.xe s := by
      intro p e hp h hv
      cases r with
      | cons r1 r2 =>
        cases r2
        cases rx with
        | cons x1 x2 =>
          cases x2
          obtain ⟨a, rfl⟩ := hv _ r1
          cases x1
          obtain ⟨as, ra⟩ := Dp.reads I p _ _ (r1.dpT w e) rfl
          refine repr_of_reads' ra hp.1 (fun z => by rw [hp.2.2.1] at z; cases z) N.gd ?_ (fun b o z => z) (fun h' u tk hk => ⟨.str p.shown, H, ?_, ⟨_, rfl⟩, h.same w (.str _)⟩) (small hp.2.2.2)
          · have := N.rm.un
            omega
          · exact I.kept (t' := tk) hk
    split at h
    · exact False.elim h
    · exact False.elim h
    · exact False.elim h
    · rename_i n1 n2 n3
      split at h
      · rename_i p e
        split at h
        · rename_i hp
          refine key p e hp h fun v rv => ?_
          cases rv with
          | non => exact absurd rfl n1
          | bl b => exact absurd rfl (n2 b)
          | str b => exact absurd rfl (n3 b)
          | int i => exact absurd rfl (hd i)
          | ty n => cases e
          | _ => exact ⟨_, rfl⟩
        · exact False.elim h
      · exact False.elim h
  · exact False.elim h
end
end MP
set_option Elab.async false
set_option linter.all false
set_option maxRecDepth 100000
set_option maxHeartbeats 1000000
namespace MP
open PySem PySem.Spec PyProof.Rows L2 SP
/-! ### signs, whatever stands at their sides -/
def bAdd (T : Tb) : D → D → MM D := orM iAdd (orM sAdd (orM lAdd (orM (mBin T .Add) (mBinR T .Add))))
def bSub (T : Tb) : D → D → MM D := orM iSub (orM (mBin T .Sub) (mBinR T .Sub))
def bMul (T : Tb) : D → D → MM D := orM iMul (orM lMul (orM (mBin T .Mult) (mBinR T .Mult)))
def bDiv (T : Tb) : D → D → MM D := orM iDiv (orM (mBin T .FloorDiv) (mBinR T .FloorDiv))
def bMod (T : Tb) : D → D → MM D := orM iMod (orM (mBin T .Mod) (mBinR T .Mod))
def bPow (T : Tb) : D → D → MM D := iPow
def bAnd (T : Tb) : D → D → MM D := mBin T .BitAnd
def bOr (T : Tb) : D → D → MM D := mBin T .BitOr
def uNeg (T : Tb) : D → MM D := orU iNeg (mUn T "__neg__")
def cEq (T : Tb) : D → D → MM D := orM eqS (orM (mCmp T .Eq) (orM (mCmpR T .Eq) eqD))
def cNe (T : Tb) : D → D → MM D := orM neS (orM (mNe T) (orM (mNeR T) neD))
def cLt (T : Tb) : D → D → MM D := orM iLt (orM (mCmp T .Lt) (mCmpR T .Lt))
def cLe (T : Tb) : D → D → MM D := orM iLe (orM (mCmp T .LtE) (mCmpR T .LtE))
def cGt (T : Tb) : D → D → MM D := orM iGt (orM (mCmp T .Gt) (mCmpR T .Gt))
def cGe (T : Tb) : D → D → MM D := orM iGe (orM (mCmp T .GtE) (mCmpR T .GtE))
def cIs (T : Tb) : D → D → MM D := isNone
def cNot (T : Tb) : D → D → MM D := isNotNone
section
variable {G : Gc} {X : Cx} {Wx : WX} {k : Nat} {T : Tb}
theorem intNot_floordiv : IntNot .FloorDiv := by
  intro prog w A E s x ox i t Q h hd q
  show wpAny (model prog w) A (tryMethod (.int i t) (PySem.dunder "floordiv") (.ref x)) Q E s
  unfold tryMethod
  refine wpAny_bind ?_
  with_reducible refine wpAny_callSpecial?_slot (typeIs_int s i t) PySem.F.slot_int_floordiv ?_
  with_reducible refine wpAny_call_entry PySem.F.slot_int_floordiv (typeIs_int s i t) PySem.F.entry_int_floordiv ?_ (PySem.F.args_int_floordiv_2 _ _)
  unfold Builtin.«int.__floordiv__»
  refine wpAny_bind ?_
  unfold Builtin.exactOperandsForPylong
  rw [if_pos (show ([Value.int i t, Value.ref x].any Value.onHeap) = true from rfl)]
  refine wpAny_bind (m := asInt? (.int i t)) (wpAny_pure ?_)
  refine wpAny_bind (m := asInt? (.ref x)) (asInt_ref h hd ?_)
  refine wpAny_pure ?_
  exact intBin_ref h hd ⟨_, rfl, wpAny_pure q⟩
theorem s_bAdd (N : En G X Wx k T) : OpS G X Wx (binaryOp .Add) (bAdd T) := s_add.or (s_addS.or (s_addL.or ((s_bin N).or (s_binR N intNot_add (by rfl)))))
theorem s_bSub (N : En G X Wx k T) : OpS G X Wx (binaryOp .Sub) (bSub T) := s_sub.or ((s_bin N).or (s_binR N intNot_sub (by rfl)))
theorem s_bMul (N : En G X Wx k T) : OpS G X Wx (binaryOp .Mult) (bMul T) := s_mul.or (s_mulL.or ((s_bin N).or (s_binR N intNot_mul (by rfl))))
theorem s_bDiv (N : En G X Wx k T) : OpS G X Wx (binaryOp .FloorDiv) (bDiv T) := s_div.or ((s_bin N).or (s_binR N intNot_floordiv (by rfl)))
theorem s_bMod (N : En G X Wx k T) : OpS G X Wx (binaryOp .Mod) (bMod T) := s_mod.or ((s_bin N).or (s_binR N intNot_mod (by rfl)))
theorem s_bPow (N : En G X Wx k T) : OpS G X Wx (binaryOp .Pow) (bPow T) := s_pow
theorem s_bAnd (N : En G X Wx k T) : OpS G X Wx (binaryOp .BitAnd) (bAnd T) := s_bin N
theorem s_bOr (N : En G X Wx k T) : OpS G X Wx (binaryOp .BitOr) (bOr T) := s_bin N
theorem s_uNeg (N : En G X Wx k T) : UnS G X Wx (unaryOp .USub) (uNeg T) := s_neg.or (s_negO N)
theorem s_cEq (N : En G X Wx k T) : OpS G X Wx (compareOp .Eq) (cEq T) := s_eqS.or ((s_cmpO N fun _ _ => rfl).or ((s_cmpR N (fun _ _ => rfl) icn_eq).or (s_eqD N)))
theorem s_cNe (N : En G X Wx k T) : OpS G X Wx (compareOp .NotEq) (cNe T) := s_neS.or ((s_neO N).or ((s_neR N).or (s_neD N)))
theorem s_cLt (N : En G X Wx k T) : OpS G X Wx (compareOp .Lt) (cLt T) := s_lt.or ((s_cmpO N fun _ _ => rfl).or (s_cmpR N (fun _ _ => rfl) icn_lt))
theorem s_cLe (N : En G X Wx k T) : OpS G X Wx (compareOp .LtE) (cLe T) := s_le.or ((s_cmpO N fun _ _ => rfl).or (s_cmpR N (fun _ _ => rfl) icn_le))
theorem s_cGt (N : En G X Wx k T) : OpS G X Wx (compareOp .Gt) (cGt T) := s_gt.or ((s_cmpO N fun _ _ => rfl).or (s_cmpR N (fun _ _ => rfl) icn_gt))
theorem s_cGe (N : En G X Wx k T) : OpS G X Wx (compareOp .GtE) (cGe T) := s_ge.or ((s_cmpO N fun _ _ => rfl).or (s_cmpR N (fun _ _ => rfl) icn_ge))
theorem s_cIs (N : En G X Wx k T) : OpS G X Wx (compareOp .Is) (cIs T) := s_isN
theorem s_cNot (N : En G X Wx k T) : OpS G X Wx (compareOp .IsNot) (cNot T) := s_notN
end
/-! ### in, not in -/
def flatD : D → Bool
  | .non => true | .bl _ => true | .int _ => true | .str _ => true | _ => false
def D.toV : D → V
  | .bl b => .bl b | .int i => .int i | .str x => .str x | _ => .non
def eqFlat (a b : D) : Bool := eqV a.toV b.toV
def inD (x : D) (xs : List D) : Bool := xs.any fun y => eqFlat y x
def inStr (x y : D) (st : Sto) : Option Bool := match x, y with
  | .str a, .str b => match a.cps.toList with
    | [c] => some (decide (c ∈ b.cps.toList))
    | _ => none
  | x, y => match itemsOf y st with
    | some xs => if flatD x = true ∧ xs.all flatD = true then some (inD x xs) else none
    | none => none
/-- by the def of y's class -/
def mIn (T : Tb) (x y : D) : MM D := fun st => match ownFn T "__contains__" y st with
  | some (_, q) => (T.run q [y, x] st).bind fun r st => match r with
    | .bl b => .ok (.bl b) st
    | _ => .bad
  | none => .bad
def mNin (T : Tb) (x y : D) : MM D := fun st => match ownFn T "__contains__" y st with
  | some (_, q) => (T.run q [y, x] st).bind fun r st => match r with
    | .bl b => .ok (.bl (!b)) st
    | _ => .bad
  | none => .bad
def cIn (T : Tb) (x y : D) : MM D := fun st => match inStr x y st with
  | some b => .ok (.bl b) st
  | none => mIn T x y st
def cNin (T : Tb) (x y : D) : MM D := fun st => match inStr x y st with
  | some b => .ok (.bl (!b)) st
  | none => mNin T x y st
section
variable {G : Gc} {X : Cx} {Wx : WX} {k : Nat} {T : Tb} {L : Addr → V → Prop} {W : Wd} {H : Hp} {st : Sto}
theorem rep_flat {v : V} {d : D} (r : Rep G W H v d) (h : flatD d = true) : v = d.toV ∧ flatV v = true := by
  cases d <;> first | (cases r <;> exact ⟨rfl, rfl⟩) | cases h
theorem repL_flat : ∀ {vs : List V} {ds : List D}, RepL G W H vs ds → ds.all flatD = true → vs = ds.map D.toV ∧ vs.all flatV = true
  | _, _, .nil, _ => ⟨rfl, rfl⟩
  | _, _, .cons r rs, h => by
    simp only [List.all_cons, Bool.and_eq_true] at h
    obtain ⟨e1, f1⟩ := rep_flat r h.1
    obtain ⟨e2, f2⟩ := repL_flat rs h.2
    exact ⟨by rw [e1, e2]; rfl, by simp [f1, f2]⟩
theorem in_val {xs : List D} {x : D} : inV x.toV (xs.map D.toV) = inD x xs := by
  unfold inV inD
  rw [List.any_map]
  rfl
theorem s_mIn (N : En G X Wx k T) : OpS G X Wx (compareOp .In) (mIn T) := by
  intro pins s σ H x y v u Q L W st d1 d2 I rx ry hL w r1 r2 h
  have hr : Room k X.A := N.rm.mono (by omega)
  unfold mIn at h
  split at h
  · rename_i c q ho
    obtain ⟨a, dx, fs, rfl, ea, IO, M⟩ := own_at N w r2 ho
    obtain rfl : u = Value.ref a := ry
    obtain ⟨od, J⟩ := ins_inst I ea
    obtain ⟨m, hF⟩ := I.fr
    have h := post.bind (rel' := Rep G) h
    refine PySem.W.in_K hF I.ok.mod.kin J M.at_ M.fn ?_
    refine wpAny_mono (wpAny_call (N.call (us := [.ref a, v]) (vs := [.ref a, x]) hr N.gd I.env0 I (.cons rfl (.cons rx .nil)) hL w (.two_ r2 r1) h)) (fun w s' z => ?_) fun _ _ x => x
    obtain ⟨z', H', I', rz, W1, st1, d, e1, w1, rd, _, q1⟩ := z
    cases d with
    | bl b =>
      cases rep_bl rd
      cases (show w = Value.bool b from rz)
      exact wpAny_truthy_bool ⟨.bl b, H', I', rfl, q1.same w1 (.bl _)⟩
    | _ => exact False.elim q1
  · exact False.elim h
theorem s_mNin (N : En G X Wx k T) : OpS G X Wx (compareOp .NotIn) (mNin T) := by
  intro pins s σ H x y v u Q L W st d1 d2 I rx ry hL w r1 r2 h
  have hr : Room k X.A := N.rm.mono (by omega)
  unfold mNin at h
  split at h
  · rename_i c q ho
    obtain ⟨a, dx, fs, rfl, ea, IO, M⟩ := own_at N w r2 ho
    obtain rfl : u = Value.ref a := ry
    obtain ⟨od, J⟩ := ins_inst I ea
    obtain ⟨m, hF⟩ := I.fr
    have h := post.bind (rel' := Rep G) h
    refine PySem.W.notIn_K hF I.ok.mod.kin J M.at_ M.fn ?_
    refine wpAny_mono (wpAny_call (N.call (us := [.ref a, v]) (vs := [.ref a, x]) hr N.gd I.env0 I (.cons rfl (.cons rx .nil)) hL w (.two_ r2 r1) h)) (fun w s' z => ?_) fun _ _ x => x
    obtain ⟨z', H', I', rz, W1, st1, d, e1, w1, rd, _, q1⟩ := z
    cases d with
    | bl b =>
      cases rep_bl rd
      cases (show w = Value.bool b from rz)
      exact wpAny_truthy_bool ⟨.bl (!b), H', I', rfl, q1.same w1 (.bl _)⟩
    | _ => exact False.elim q1
  · exact False.elim h
theorem s_cIn (N : En G X Wx k T) : OpS G X Wx (compareOp .In) (cIn T) := by
  intro pins s σ H x y v u Q L W st d1 d2 I rx ry hL w r1 r2 h
  unfold cIn at h
  split at h
  · rename_i b e
    unfold inStr at e
    split at e
    · rename_i a b'
      split at e
      · rename_i c hc
        cases e
        cases rep_str r1
        cases rep_str r2
        have ea : a = ⟨#[c]⟩ := by
          obtain ⟨⟨l⟩⟩ := a
          have hc : l = [c] := hc
          rw [hc]
        subst ea
        exact op_in_sign pins s σ H _ _ v u Q I rx ry ⟨c, b', rfl, rfl, h.same w (.bl _)⟩
      · cases e
    · split at e
      · rename_i xs ei
        split at e
        · rename_i hf
          cases e
          obtain ⟨a, vs, rfl, hq, rl⟩ := items_at (X := X) w r2 ei
          obtain ⟨e1, f1⟩ := rep_flat r1 hf.1
          obtain ⟨e2, f2⟩ := repL_flat rl hf.2
          refine op_in_seq pins s σ H _ _ v u Q I rx ry ⟨a, vs, rfl, hq, f1, f2, ?_⟩
          rw [if_neg (by decide), e1, e2, in_val]
          exact h.same w (.bl _)
        · cases e
      · cases e
  · exact s_mIn N pins s σ H x y v u Q L W st d1 d2 I rx ry hL w r1 r2 h
theorem s_cNin (N : En G X Wx k T) : OpS G X Wx (compareOp .NotIn) (cNin T) := by
  intro pins s σ H x y v u Q L W st d1 d2 I rx ry hL w r1 r2 h
  unfold cNin at h
  split at h
  · rename_i b e
    unfold inStr at e
    split at e
    · rename_i a b'
      split at e
      · rename_i c hc
        cases e
        cases rep_str r1
        cases rep_str r2
        have ea : a = ⟨#[c]⟩ := by
          obtain ⟨⟨l⟩⟩ := a
          have hc : l = [c] := hc
          rw [hc]
        subst ea
        exact op_notIn_sign pins s σ H _ _ v u Q I rx ry ⟨c, b', rfl, rfl, h.same w (.bl _)⟩
      · cases e
    · split at e
      · rename_i xs ei
        split at e
        · rename_i hf
          cases e
          obtain ⟨a, vs, rfl, hq, rl⟩ := items_at (X := X) w r2 ei
          obtain ⟨e1, f1⟩ := rep_flat r1 hf.1
          obtain ⟨e2, f2⟩ := repL_flat rl hf.2
          refine op_notIn_seq pins s σ H _ _ v u Q I rx ry ⟨a, vs, rfl, hq, f1, f2, ?_⟩
          rw [if_pos rfl, e1, e2, in_val]
          exact h.same w (.bl _)
        · cases e
      · cases e
  · exact s_mNin N pins s σ H x y v u Q L W st d1 d2 I rx ry hL w r1 r2 h
end
end MP
set_option Elab.async false
set_option linter.all false
set_option maxRecDepth 100000
set_option maxHeartbeats 1000000
namespace MP
open PySem PySem.Spec PyProof.Rows L2 SP
/-! ### what has ceased to change -/
def frz1 (n : Nat) (d : D) (st : Sto) : Option (D × Sto) := match d with
  | .mref k => if k < n then some (d, st) else match st[k]? with
    | some (.lst xs) => if cleanL n xs = true then some (.lst xs, st.set k (.frz (.lst xs))) else none
    | some (.ins c gs) => if cleanF n gs = true then some (.ins c gs, st.set k (.frz (.ins c gs))) else none
    | some (.frz d') => if d'.clean n = true then some (d', st) else none
    | none => none
  | d => if d.clean n = true then some (d, st) else none
def frzL (n : Nat) : List D → Sto → Option (List D × Sto)
  | [], st => some ([], st)
  | d :: ds, st => match frz1 n d st with
    | some (d', st) => match frzL n ds st with
      | some (ds', st) => some (d' :: ds', st)
      | none => none
    | none => none
def frzD (n : Nat) (d : D) (st : Sto) : Option (D × Sto) := if d.clean n = true then some (d, st) else frz1 n d st
section
variable {G : Gc} {L : Addr → V → Prop} {W W' : Wd} {H H' : Hp} {st st' : Sto} {n k : Nat} {a : Addr} {v : V} {d d' : D}
theorem frz_ok (w : WOk G L W H st) (hk : W.mu[k]? = some a) (hf : ¬ W.F a) (hn : n ≤ k) (hnl : n ≤ W.mu.length) (hR : ∀ W2, (∀ b, W.F b → W2.F b) → W2.F a → W2.mu = W.mu → Rep G W2 H (.ref a) d') (hh : ∃ o, H a = some o ∧ ∀ ps, o ≠ .tbl ps) :
    Ext n W H (W.add a) H ∧ WOk G L (W.add a) H (st.set k (.frz d')) ∧ Rep G (W.add a) H (.ref a) d' := by
  have sees : Sees W H (W.add a) H := ⟨fun b h => .inl h, fun _ _ => rfl, fun _ _ h => h⟩
  have R := hR (W.add a) (fun b h => .inl h) (.inr rfl) rfl
  refine ⟨⟨fun b h => .inl h, fun _ _ => rfl, fun b h => ?_, ⟨[], (List.append_nil _).symm, by simp⟩, fun _ h => h, fun _ _ h => h, fun _ _ h _ _ => h⟩, ⟨?_, w.nd, fun b h => ?_, fun j b o h1 h2 => ?_, w.ce, w.gk.same sees⟩, R⟩
  · rcases h with h | rfl
    · exact .inl h
    · refine .inr (.inr ?_)
      have hlt := (List.getElem?_eq_some_iff.mp hk).1
      have e := (List.getElem?_eq_some_iff.mp hk).2
      rw [List.mem_iff_getElem]
      refine ⟨k - n, by rw [List.length_drop]; omega, ?_⟩
      rw [List.getElem_drop]
      rw [← e]
      congr 1
      omega
  · rw [List.length_set]; exact w.len
  · rcases h with h | rfl
    · exact w.fh b h
    · exact hh
  · by_cases hj : j = k
    · subst hj
      have h1 : W.mu[j]? = some b := h1
      rw [hk] at h1
      cases h1
      rw [List.getElem?_set_self (by rw [← w.len]; exact (List.getElem?_eq_some_iff.mp hk).1)] at h2
      cases h2
      exact ⟨.inr rfl, R⟩
    · rw [List.getElem?_set_ne (Ne.symm hj)] at h2
      refine (w.at_ j b o h1 h2).see sees (fun z => z.elim id fun z => ?_) rfl
      subst z
      exact absurd (nodup_at w.nd h1 hk) hj
theorem RepL.seeF {vs : List V} {ds : List D} (r : RepL G W H vs ds) (hf : ∀ b, W.F b → W'.F b) (hm : W'.mu = W.mu) : RepL G W' H vs ds := r.see ⟨hf, fun _ _ => rfl, fun k a h => by rw [hm]; exact h⟩
theorem RepF.seeF {vs : List (Str × V)} {ds : List (Str × D)} (r : RepF G W H vs ds) (hf : ∀ b, W.F b → W'.F b) (hm : W'.mu = W.mu) : RepF G W' H vs ds := r.see ⟨hf, fun _ _ => rfl, fun k a h => by rw [hm]; exact h⟩
theorem frz1_ok (w : WOk G L W H st) (hnl : n ≤ W.mu.length) (r : Rep G W H v d) (e : frz1 n d st = some (d', st')) : ∃ W', Ext n W H W' H ∧ WOk G L W' H st' ∧ Rep G W' H v d' := by
  have same : d' = d → st' = st → ∃ W', Ext n W H W' H ∧ WOk G L W' H st' ∧ Rep G W' H v d' := fun h1 h2 => by subst h1 h2; exact ⟨W, Ext.refl, w, r⟩
  unfold frz1 at e
  split at e
  · rename_i k
    split at e
    · cases e; exact same rfl rfl
    · rename_i hk
      cases r with
      | mref hm =>
        rename_i a
        split at e
        · rename_i xs hx
          split at e
          · cases e
            obtain ⟨hf, vs, hH, rl⟩ := w.lst_mu hm hx
            obtain ⟨e1, w1, r1⟩ := frz_ok (d' := .lst xs) w hm hf (by omega) hnl (fun W2 hF ha hmu => .lst ha hH (rl.seeF hF hmu)) ⟨_, hH, fun _ z => nomatch z⟩
            exact ⟨_, e1, w1, r1⟩
          · cases e
        · rename_i c gs hx
          split at e
          · cases e
            obtain ⟨hf, dx, fs, hH, rl⟩ := w.ins_mu hm hx
            obtain ⟨e1, w1, r1⟩ := frz_ok (d' := .ins c gs) w hm hf (by omega) hnl (fun W2 hF ha hmu => .ins ha hH (rl.seeF hF hmu)) ⟨_, hH, fun _ z => nomatch z⟩
            exact ⟨_, e1, w1, r1⟩
          · cases e
        · rename_i d0 hx
          split at e
          · cases e
            obtain ⟨m, e1, r1⟩ := w.mu_at hm
            rw [hx] at e1
            cases e1
            exact ⟨W, Ext.refl, w, r1.2⟩
          · cases e
        · cases e
  · split at e
    · cases e; exact same rfl rfl
    · cases e
theorem frzD_ok (w : WOk G L W H st) (hnl : n ≤ W.mu.length) (r : Rep G W H v d) (e : frzD n d st = some (d', st')) : ∃ W', Ext n W H W' H ∧ WOk G L W' H st' ∧ Rep G W' H v d' := by
  unfold frzD at e
  split at e
  · cases e; exact ⟨W, Ext.refl, w, r⟩
  · exact frz1_ok w hnl r e
end
def sRetF (m : EE) : SS := fun n sl st => toS (m sl st) sl fun d st => match frzD n d st with
  | some (d, st) => .rt d st
  | none => .bad
section
variable {G : Gc} {X : Cx} {Wx : WX} {k : Nat} {T : Tb} {pos : Pos} {e : Expr} {me : EE}
theorem ev_retF (he : EvE G X Wx e me) : EvS G X Wx (.Return (some e) pos) (sRetF me) :=
  PS.imp (ps_ret he) fun Z σ H ⟨n, W, st, sl, hl, w, rs, h⟩ => tG_imp (oneS (rel := Rep G) hl w rs h) fun v H1 ⟨W1, st1, d, hl1, e1, w1, rs1, r, _, q⟩ => by
    split at q
    · rename_i d2 st2 hz
      obtain ⟨W2, e2, w2, r2⟩ := frzD_ok (w1.ln (lok_of rs1)) hl1 r hz
      exact q v H1 W2 e2 w2 r2
    · exact False.elim q
/-! ### truth -/
def truM (T : Tb) (d : D) : MM Bool := fun st => match d with
  | .non => .ok false st
  | .bl b => .ok b st
  | .int i => .ok (i != 0) st
  | .str z => if z.length ≤ 1000000 then .ok ((z.length : Int) != 0) st else .bad
  | d => match itemsOf d st with
    | some xs => .ok (!xs.isEmpty) st
    | none => match ownFn T "__bool__" d st with
      | some (_, q) => (T.run q [d] st).bind fun r st => match r with
        | .bl b => .ok b st
        | _ => .bad
      | none => .bad
theorem isEmpty_rep {W : Wd} {H : Hp} {vs : List V} {ds : List D} (r : RepL G W H vs ds) : (!vs.isEmpty) = !ds.isEmpty := by cases r <;> rfl
theorem s_truM (N : En G X Wx k T) : TruS G X Wx (truM T) := by
  intro pins s σ H x v Q L W st d I rx hL w r h
  unfold truM at h
  split at h
  · cases rep_non r
    exact tru_ok pins s σ H _ v Q I rx ⟨false, rfl, h.same w rfl⟩
  · cases rep_bl r
    exact tru_ok pins s σ H _ v Q I rx ⟨_, rfl, h.same w rfl⟩
  · cases rep_int r
    exact tru_ok pins s σ H _ v Q I rx ⟨_, rfl, h.same w rfl⟩
  · split at h
    · rename_i hz
      cases rep_str r
      exact tru_ok pins s σ H _ v Q I rx ⟨_, ⟨small hz, rfl⟩, h.same w rfl⟩
    · exact False.elim h
  · split at h
    · rename_i xs hx
      obtain ⟨a, vs, rfl, hs, rv⟩ := items_at (X := X) w r hx
      refine tru_ok pins s σ H _ v Q I rx ⟨!vs.isEmpty, ?_, by rw [isEmpty_rep rv]; exact h.same w rfl⟩
      rcases hs with hs | hs
      · exact .inl ⟨vs, hs, rfl⟩
      · exact .inr (.inl ⟨vs, hs, rfl⟩)
    · split at h
      · rename_i c q ho
        have hr : Room k X.A := N.rm.mono (by omega)
        obtain ⟨a, dx, fs, rfl, ea, IO, M⟩ := own_at N w r ho
        obtain rfl : v = Value.ref a := rx
        obtain ⟨od, J⟩ := ins_inst I ea
        obtain ⟨m, hF⟩ := I.fr
        have h := post.bind (rel' := Rep G) h
        refine PySem.W.truthy_K hF I.ok.mod.kin J M.at_ M.fn ?_
        refine wpAny_mono (wpAny_call (N.call (us := [.ref a]) (vs := [.ref a]) hr N.gd I.env0 I (.cons rfl .nil) hL w (.one_ r) h)) (fun w s' z => ?_) fun _ _ x => x
        obtain ⟨z', H', I', rz, W1, st1, d, e1, w1, rd, _, q1⟩ := z
        cases d with
        | bl b =>
          cases rep_bl rd
          cases (show w = Value.bool b from rz)
          exact ⟨H', I', q1.same w1 rfl⟩
        | _ => exact False.elim q1
      · exact False.elim h
end
end MP
set_option Elab.async false
set_option linter.all false
set_option maxRecDepth 100000
set_option maxHeartbeats 1000000
namespace MP
open PySem PySem.Spec PyProof.Rows L2 SP
section
open PySem.Sem (wp)
variable {prog : Program} {w : World}
theorem meets_bool_own (v : Value) : MeetsIn prog w (Builtin.«bool.__new__» ⟨[.type "bool", v], []⟩) (fun A R s => wpAny (model prog w) A.in1 (truthy v) (fun b s' => R (.ok (.ret (.bool b))) s') (fun e s' => R (.error e) s') s) :=
  MeetsIn.of_wp fun A R s h => by
    have f1 := F.conv_sub_bool
    repeat (any_goals (first | assumption | (with_reducible refine wpAny_mono h (fun b s' z => ?_) (fun e s' z => z)) | wp_step))
    exact ⟨_, rfl, ‹_›⟩
theorem call_bool_own {A : Around} {E : Value → Shared → Prop} {s : Shared} {v : Value} {Q : Value → Shared → Prop} (h : wpAny (model prog w) A.in1.in1 (truthy v) (fun b s' => Q (.bool b) s') E s) : wpAny (model prog w) A (call (.type "bool") [v]) Q E s :=
  callType_newIn F.called_bool F.newNe_bool (F.typeCall_bool_1 v) (F.newCall_bool_1 v) (fun obj => F.args_object_init_2 obj v) F.entry_bool_new (meets_bool_own v) (wpAny_mono h (fun b s' z => ⟨rfl, z⟩) fun _ _ z => z)
end
def boolO (T : Tb) (ds : List D) : MM D := fun st => match ds with
  | [d] => match ownFn T "__bool__" d st with
    | some (_, q) => (T.run q [d] st).bind fun r st => match r with
      | .bl b => .ok (.bl b) st
      | _ => .bad
    | none => .bad
  | _ => .bad
def intS (ds : List D) : MM D := fun st => match ds with
  | [.str a] => match PySem.intText? a with
    | some n => if a.length ≤ 640 then .ok (.int n) st else .bad
    | none => .bad
  | _ => .bad
/-- bools, ints of a list -/
def boolsOf : List D → Option (List Bool)
  | [] => some []
  | .bl b :: ds => (boolsOf ds).map (b :: ·)
  | _ => none
def intsOf : List D → Option (List Int)
  | [] => some []
  | .int b :: ds => (intsOf ds).map (b :: ·)
  | _ => none
def allL (ds : List D) : MM D := fun st => match ds with
  | [d] => match seqOf d st with
    | some xs => match boolsOf xs with
      | some bs => .ok (.bl (bs.all id)) st
      | none => .bad
    | none => .bad
  | _ => .bad
def anyL (ds : List D) : MM D := fun st => match ds with
  | [d] => match seqOf d st with
    | some xs => match boolsOf xs with
      | some bs => .ok (.bl (bs.any id)) st
      | none => .bad
    | none => .bad
  | _ => .bad
def sumL (ds : List D) : MM D := fun st => match ds with
  | [d] => match seqOf d st with
    | some xs => match intsOf xs with
      | some bs => .ok (.int bs.sum) st
      | none => .bad
    | none => .bad
  | _ => .bad
def b_isinstance (T : Tb) : List D → MM D := mIsi T
def b_len (T : Tb) : List D → MM D := cLen
def b_abs (T : Tb) : List D → MM D := orU cAbs (mUnL T "__abs__")
def b_all (T : Tb) : List D → MM D := allL
def b_any (T : Tb) : List D → MM D := anyL
def b_sum (T : Tb) : List D → MM D := sumL
def b_int (T : Tb) : List D → MM D := orU cInt intS
def b_bool (T : Tb) : List D → MM D := orU cBool (boolO T)
def b_str (T : Tb) : List D → MM D := orU cStr (mStrO T)
def b_list (T : Tb) : List D → MM D := cList
def b_listM (T : Tb) : List D → MM D := cListM
def b_tuple (T : Tb) : List D → MM D := cTuple
section
variable {G : Gc} {X : Cx} {Wx : WX} {k : Nat} {T : Tb}
theorem c_boolO (N : En G X Wx k T) : CallS G X Wx (.type "bool") (boolO T) := by
  intro pins s σ H xs us Q L W st ds I rx hL w r h
  unfold boolO at h
  split at h
  · rename_i d
    split at h
    · rename_i c q ho
      cases r with
      | cons r1 r2 =>
        cases r2
        cases rx with
        | cons x1 x2 =>
          cases x2
          have hr2 : Room k X.A.in1.in1 := (show Room (k + 1) X.A.in1 from N.rm.in1).in1
          obtain ⟨a, dx, fs, rfl, ea, IO, M⟩ := own_at N w r1 ho
          cases x1
          obtain ⟨od, J⟩ := ins_inst I ea
          obtain ⟨m, hF⟩ := I.fr
          replace h := post.bind (rel' := Rep G) h
          refine call_bool_own (PySem.W.truthy_K hF I.ok.mod.kin J M.at_ M.fn ?_)
          refine wpAny_mono (wpAny_call (N.call (us := [.ref a]) (vs := [.ref a]) hr2 N.gd I.env0.in1.in1 I (.cons rfl .nil) hL w (.one_ r1) h)) (fun w s' z => ?_) fun _ _ x => x
          obtain ⟨z', H', I', rz, W1, st1, d, e1, w1, rd, _, q1⟩ := z
          cases d with
          | bl b =>
            cases rep_bl rd
            cases (show w = Value.bool b from rz)
            exact ⟨.bl b, H', I', rfl, q1.same w1 (.bl b)⟩
          | _ => exact False.elim q1
    · exact False.elim h
  · exact False.elim h
theorem c_intS : CallS G X Wx (.type "int") intS := callS_of call_int_str fun σ H x Q L W st ds w rl q => by
  unfold intS at q
  split at q
  · rename_i a
    split at q
    · rename_i n hn
      split at q
      · rename_i hz
        cases rl with
        | cons r rr => cases rr; cases rep_str r; exact ⟨_, _, rfl, hn, hz, q.same w (.int _)⟩
      · exact False.elim q
    · exact False.elim q
  · exact False.elim q
theorem bools_at {W : Wd} {H : Hp} : ∀ {ds : List D} {vs : List V} {bs : List Bool}, RepL G W H vs ds → boolsOf ds = some bs → vs = bs.map V.bl
  | [], _, _, r, e => by cases r; cases e; rfl
  | d :: ds, _, _, r, e => by
    cases r with
    | cons r1 r2 =>
      cases d with
      | bl b =>
        have e : (boolsOf ds).map (b :: ·) = some _ := e
        cases q : boolsOf ds with
        | none => rw [q] at e; cases e
        | some l => rw [q] at e; cases e; cases rep_bl r1; rw [bools_at r2 q]; rfl
      | _ => cases e
theorem ints_at {W : Wd} {H : Hp} : ∀ {ds : List D} {vs : List V} {bs : List Int}, RepL G W H vs ds → intsOf ds = some bs → vs = bs.map V.int
  | [], _, _, r, e => by cases r; cases e; rfl
  | d :: ds, _, _, r, e => by
    cases r with
    | cons r1 r2 =>
      cases d with
      | int b =>
        have e : (intsOf ds).map (b :: ·) = some _ := e
        cases q : intsOf ds with
        | none => rw [q] at e; cases e
        | some l => rw [q] at e; cases e; cases rep_int r1; rw [ints_at r2 q]; rfl
      | _ => cases e
theorem c_allL (hc : X.calm = true) : CallS G X Wx (.builtin "all") allL := callS_of (cr_all hc) fun σ H x Q L W st ds w rl q => by
  unfold allL at q
  split at q
  · split at q
    · rename_i xs hx
      split at q
      · rename_i bs hb
        cases rl with
        | cons r rr =>
          cases rr
          obtain ⟨a, vs, rfl, h, rv⟩ := seq_at w r hx
          exact ⟨a, bs, rfl, by rw [← bools_at rv hb]; exact SqL.of h, q.same w (.bl _)⟩
      · exact False.elim q
    · exact False.elim q
  · exact False.elim q
theorem c_anyL (hc : X.calm = true) : CallS G X Wx (.builtin "any") anyL := callS_of (cr_any hc) fun σ H x Q L W st ds w rl q => by
  unfold anyL at q
  split at q
  · split at q
    · rename_i xs hx
      split at q
      · rename_i bs hb
        cases rl with
        | cons r rr =>
          cases rr
          obtain ⟨a, vs, rfl, h, rv⟩ := seq_at w r hx
          exact ⟨a, bs, rfl, by rw [← bools_at rv hb]; exact SqL.of h, q.same w (.bl _)⟩
      · exact False.elim q
    · exact False.elim q
  · exact False.elim q
theorem c_sumL (hc : X.calm = true) : CallS G X Wx (.builtin "sum") sumL := callS_of (cr_sum hc) fun σ H x Q L W st ds w rl q => by
  unfold sumL at q
  split at q
  · split at q
    · rename_i xs hx
      split at q
      · rename_i bs hb
        cases rl with
        | cons r rr =>
          cases rr
          obtain ⟨a, vs, rfl, h, rv⟩ := seq_at w r hx
          exact ⟨a, bs, rfl, by rw [← ints_at rv hb]; exact SqL.of h, q.same w (.int _)⟩
      · exact False.elim q
    · exact False.elim q
  · exact False.elim q
theorem c_isinstance (N : En G X Wx k T) : CallS G X Wx (.builtin "isinstance") (b_isinstance T) := call_isS N
theorem c_len (N : En G X Wx k T) : CallS G X Wx (.builtin "len") (b_len T) := call_lenS
theorem c_abs (N : En G X Wx k T) : CallS G X Wx (.builtin "abs") (b_abs T) := call_absI.or (call_absS N)
theorem c_all (N : En G X Wx k T) : CallS G X Wx (.builtin "all") (b_all T) := c_allL N.calm
theorem c_any (N : En G X Wx k T) : CallS G X Wx (.builtin "any") (b_any T) := c_anyL N.calm
theorem c_sum (N : En G X Wx k T) : CallS G X Wx (.builtin "sum") (b_sum T) := c_sumL N.calm
theorem c_int (N : En G X Wx k T) : CallS G X Wx (.type "int") (b_int T) := call_intS.or c_intS
theorem c_bool (N : En G X Wx k T) : CallS G X Wx (.type "bool") (b_bool T) := call_boolS.or (c_boolO N)
theorem c_str (N : En G X Wx k T) : CallS G X Wx (.type "str") (b_str T) := call_strI.or (call_strS N)
theorem c_list (N : En G X Wx k T) : CallS G X Wx (.type "list") (b_list T) := call_listS
theorem c_listM (N : En G X Wx k T) : CallS G X Wx (.type "list") (b_listM T) := call_listM
theorem c_tuple (N : En G X Wx k T) : CallS G X Wx (.type "tuple") (b_tuple T) := call_tupleS
end
end MP
set_option Elab.async false
set_option linter.all false
set_option maxRecDepth 100000
set_option maxHeartbeats 1000000
namespace MP
open PySem PySem.Spec PyProof.Rows L2 SP
/-! ### slices -/
abbrev EO := Sl → MM (Option Int)
def relO : Wd → Hp → Option Int → Option Int → Prop := fun _ _ a b => a = b
abbrev EvO (G : Gc) (X : Cx) (Wx : WX) (e : Option Expr) (m : EO) : Prop := PO X e (tG G X relO Wx m)
def oNone : EO := fun _ st => .ok none st
def oSome (m : EE) : EO := fun sl st => (m sl st).bind fun d st => match d with
  | .int i => .ok (some i) st
  | _ => .bad
def cutD (xs : List D) (lo hi : Option Int) : List D := (xs.drop (HT.sIx xs.length 0 lo)).take (HT.sIx xs.length xs.length hi - HT.sIx xs.length 0 lo)
def mSl (d : D) (lo hi : Option Int) : MM D := fun st => match d with
  | .str z => if z.length ≤ 1000000 then .ok (.str (cutS z lo hi)) st else .bad
  | .slst xs => .ok (.lst (cutD xs lo hi)) st
  | .tup xs => if HT.sIx xs.length 0 lo = 0 ∧ HT.sIx xs.length xs.length hi = xs.length then .bad else .ok (.tup (cutD xs lo hi)) st
  | d => match seqOf d st with
    | some xs => .ok (.lst (cutD xs lo hi)) st
    | none => .bad
def eSl (m : EE) (lo hi : EO) : EE := fun sl st => (m sl st).bind fun d st => (lo sl st).bind fun a st => (hi sl st).bind fun b => mSl d a b
section
variable {G : Gc} {X : Cx} {Wx : WX} {k : Nat} {T : Tb} {pos p2 : Pos} {e : Expr} {me : EE} {lo hi : Option Expr} {ml mh : EO} {W : Wd} {H : Hp}
theorem RepL.take {vs : List V} {ds : List D} (r : RepL G W H vs ds) : ∀ n, RepL G W H (vs.take n) (ds.take n)
  | 0 => by simp; exact .nil
  | n + 1 => by
    cases r with
    | nil => exact .nil
    | cons h r => exact .cons h (RepL.take r n)
theorem RepL.drop {vs : List V} {ds : List D} (r : RepL G W H vs ds) : ∀ n, RepL G W H (vs.drop n) (ds.drop n)
  | 0 => by simpa using r
  | n + 1 => by
    cases r with
    | nil => exact .nil
    | cons h r => exact RepL.drop r n
theorem RepL.cutD {vs : List V} {ds : List D} (r : RepL G W H vs ds) (lo hi : Option Int) : RepL G W H (cutV vs lo hi) (MP.cutD ds lo hi) := by
  unfold cutV MP.cutD
  rw [r.len]
  exact (r.drop _).take _
theorem eo_none : EvO G X Wx none oNone := ⟨fun pins s σ H Q I ⟨W, st, sl, w, rs, h⟩ => po_none.run pins s σ H Q I (post.same (v := none) h w rfl)⟩
theorem eo_some (he : EvE G X Wx e me) : EvO G X Wx (some e) (oSome me) := ⟨fun pins s σ H Q I ⟨W, st, sl, w, rs, h⟩ => (po_some he).run pins s σ H Q I (tG_imp (one (rel' := Rep G) w rs h) fun x H1 ⟨W1, st1, d, e1, w1, rs1, rr, _, h1⟩ => by
  cases d with
  | int i => cases rep_int rr; exact ⟨i, rfl, h1.same w1 rfl⟩
  | _ => exact False.elim h1)⟩
theorem ev_sl (he : EvE G X Wx e me) (hl : EvO G X Wx lo ml) (hh : EvO G X Wx hi mh) : EvE G X Wx (.Subscript e (.Slice lo hi none p2) pos) (eSl me ml mh) := by
  refine PE.imp (pe_slice (sl_str.or (sl_list.or sl_tup)) he hl hh) fun σ H Q ⟨W, st, sl, w, rs, h⟩ => tG_imp (one (rel' := Rep G) w rs h) fun x H1 ⟨W1, st1, d, e1, w1, rs1, rr, _, h1⟩ => tG_imp (one (rel' := relO) w1 rs1 h1) fun a H2 ⟨W2, st2, a', e2, w2, rs2, ra, _, h2⟩ => tG_imp (one (rel' := relO) w2 rs2 h2) fun b H3 ⟨W3, st3, b', e3, w3, rs3, rb, _, h3⟩ => ?_
  cases ra
  cases rb
  have r := (rr.see e2.sees).see e3.sees
  unfold mSl at h3
  split at h3
  · split at h3
    · rename_i hz
      cases rep_str r
      exact .inl ⟨_, rfl, small hz, h3.same w3 (.str _)⟩
    · exact False.elim h3
  · cases r with
    | slst f h rl => exact .inr (.inl ⟨_, _, rfl, .inl h, new_lst w3 (rl.cutD _ _) h3⟩)
  · split at h3
    · exact False.elim h3
    · rename_i hn
      cases r with
      | tup f h rl => exact .inr (.inr ⟨_, _, rfl, SqT.of h, by rw [rl.len]; exact hn, new_tup w3 (rl.cutD _ _) h3⟩)
  · split at h3
    · rename_i xs hx
      obtain ⟨a, vs, rfl, h, rl⟩ := seq_at w3 r hx
      exact .inr (.inl ⟨_, _, rfl, SqL.of h, new_lst w3 (rl.cutD _ _) h3⟩)
    · exact False.elim h3
/-! ### x[i] -/
def dIxT (T : Tb) : D → D → MM D := dIx
theorem ev_ixT {a b : Expr} {ma mb : EE} (N : En G X Wx k T) (ha : EvE G X Wx a ma) (hb : EvE G X Wx b mb) (hs : PlainIx b) : EvE G X Wx (.Subscript a b pos) (eOp (dIxT T) ma mb) := ev_ix ha hb hs
/-! ### the signs of a text walked -/
def charsD (z : Str) : List D := z.cps.toList.map fun c => .str ⟨#[c]⟩
def itSeqT (d : D) : MM IT := fun st => match d with
  | .str z => .ok (.fix (charsD z)) st
  | d => itSeq d st
def iSeqT (m : EE) : EI := fun sl st => (m sl st).bind itSeqT
theorem walk_str (z : Str) : WalkS G W H (Its z) (charsD z) := by
  intro W2 H2 s
  have hl : (charsD z).length = z.cps.size := by unfold charsD; rw [List.length_map, Array.length_toList]
  refine ⟨fun i hi => ?_, ?_, fun i v H3 L st2 d w hy hd => ?_⟩
  · show i < z.cps.size
    omega
  · show z.cps.size ≤ _
    omega
  · obtain ⟨rfl, c, hc, rfl⟩ := hy
    have : d = .str ⟨#[c]⟩ := by
      unfold charsD at hd
      rw [List.getElem?_map, Array.getElem?_toList, hc] at hd
      exact (Option.some.inj hd).symm
    subst this
    exact ⟨W2, Ext.refl, w, .str _⟩
theorem ei_seqT {tg : Expr} (he : EvE G X Wx e me) : EvI G X Wx tg e (iSeqT me) := by
  refine ⟨fun pins s σ H R I ⟨W, st, sl, w, rs, h⟩ => ?_⟩
  unfold iSeqT at h
  cases q : me sl st with
  | bad => rw [q] at h; exact False.elim h
  | exc e' s' =>
    rw [q] at h
    refine (ei_seq (tg := tg) he).run pins s σ H R I ⟨W, st, sl, w, rs, ?_⟩
    unfold iSeq
    rw [q]
    exact h
  | ok d st1 =>
    rw [q] at h
    by_cases hs : ∃ z, d = .str z
    · obtain ⟨z, rfl⟩ := hs
      have h : post G (LX X sl.lk σ) (relI G X.K) Wx σ W H R (.ok (.fix (charsD z)) st1) := h
      refine (pi_str (tg := tg) he).run pins s σ H R I ⟨W, st, sl, w, rs, ?_⟩
      rw [q]
      intro v H' W' e1 w1 r1
      cases rep_str r1
      exact ⟨z, rfl, h _ H' W' e1 w1 (walk_str z)⟩
    · refine (ei_seq (tg := tg) he).run pins s σ H R I ⟨W, st, sl, w, rs, ?_⟩
      unfold iSeq
      rw [q]
      have e2 : itSeqT d st1 = itSeq d st1 := by
        unfold itSeqT
        split
        · exact absurd ⟨_, rfl⟩ hs
        · rfl
      have h : post G (LX X sl.lk σ) (relI G X.K) Wx σ W H R (itSeqT d st1) := h
      rw [e2] at h
      exact h
end
end MP
set_option Elab.async false
set_option linter.all false
set_option maxRecDepth 100000
set_option maxHeartbeats 1000000
namespace MP
open PySem PySem.Spec PyProof.Rows L2 SP
/-! ### f'..' -/
def mFmt (T : Tb) (d : D) : MM D := fun st => match d with
  | .str z => if z.length ≤ 1000000 then .ok (.str z) st else .bad
  | .int i => if i.natAbs.log2 < 1920 then .ok (.str (toString i : String)) st else .bad
  | d => match ownFn T "__str__" d st with
    | some (_, q) => (T.run q [d] st).bind isStr
    | none => .bad
def jsM : List EE → Str → EE
  | [], acc => fun _ st => .ok (.str acc) st
  | m :: ms, acc => fun sl st => (m sl st).bind fun d st => match d with
    | .str y => if (acc ++ y).length ≤ 1000000 then jsM ms (acc ++ y) sl st else .bad
    | _ => .bad
def eJs (ms : List EE) : EE := jsM ms Str.empty
section
variable {G : Gc} {X : Cx} {Wx : WX} {k : Nat} {T : Tb} {pos apos kpos : Pos} {e o : Expr} {es : List Expr} {me mo : EE} {ma : EA}
theorem ev_fmt (N : En G X Wx k T) (he : EvE G X Wx e me) : EvE G X Wx (.FormattedValue e (-1) none pos) (eUn (mFmt T) me) := by
  refine ⟨fun pins s σ H Q I ⟨W, st, sl, w, rs, h⟩ => ?_⟩
  refine wpAny_FormattedValue_plain (thn (he.run pins s σ H _ I (one w rs h)) fun v s1 ⟨x, H1, I1, r1, W1, st1, d, e1, w1, rs1, rr, _, h1⟩ => ?_)
  have key : (∀ y : Str, d = .str y → y.length ≤ 1000000 → postE G (LX X sl.lk σ) Wx σ W1 H1 Q (.ok (.str y) st1) → wpAny (model X.prog X.w) X.A (formatField v Str.empty) (EP X pins σ Q) X.xe s1) ∧
      (∀ i : Int, d = .int i → i.natAbs.log2 < 1920 → postE G (LX X sl.lk σ) Wx σ W1 H1 Q (.ok (.str (toString i : String)) st1) → wpAny (model X.prog X.w) X.A (formatField v Str.empty) (EP X pins σ Q) X.xe s1) := by
    constructor
    · intro y ed hz hq
      subst ed
      cases rep_str rr
      obtain ⟨t, rfl⟩ := r1
      exact wpAny_formatField_str ⟨.str y, H1, I1, ⟨t, rfl⟩, hq.same w1 (.str _)⟩ ⟨.str y, H1, I1.tok _, ⟨_, rfl⟩, hq.same w1 (.str _)⟩ (small hz)
    · intro i ed hz hq
      subst ed
      cases rep_int rr
      obtain ⟨t, rfl⟩ := r1
      exact wpAny_formatField_int hz ⟨.str _, H1, I1.tok _, ⟨_, rfl⟩, hq.same w1 (.str _)⟩
  unfold mFmt at h1
  split at h1
  · split at h1
    · rename_i hz; exact key.1 _ rfl hz h1
    · exact False.elim h1
  · split at h1
    · rename_i hz; exact key.2 _ rfl hz h1
    · exact False.elim h1
  · split at h1
    · rename_i c q ho
      obtain ⟨a, dx, fs, rfl, ea, IO, M⟩ := own_at N w1 rr ho
      obtain rfl : v = Value.ref a := r1
      obtain ⟨od, J⟩ := ins_inst I1 ea
      have I2 : Inv X pins σ H1 { s1 with toks := s1.toks + 1 } := I1.tok _
      have hr1 : Room (k + 1) X.A := N.rm.mono (by omega)
      have h2 := post.bind (rel' := Rep G) h1
      refine PySem.W.kfo_fieldS hr1.in1.units0 I1.kIn J IO.fm IO.hm (show PySem.W.findIn X.K (.ref (G.ga c)) "__str__" = _ from M.at_) M.fn ?_
      refine wpAny_mono (wpAny_call (N.call (us := [.ref a]) (vs := [.ref a]) hr1.in1 N.gd I2.env0.in1 I2 (.cons rfl .nil) (lok_of rs1) w1 (.one_ rr) h2)) (fun w s' z => ?_) fun _ _ x => x
      obtain ⟨z', H', I', rz, W2, st2, d2, e2, w2, rd, _, q2⟩ := z
      cases d2 with
      | str y => cases rep_str rd; exact strback rz ⟨_, H', I', rz, q2.same w2 (.str _)⟩
      | _ => exact False.elim q2
    · exact False.elim h1
inductive EvJ (G : Gc) (X : Cx) (Wx : WX) : List Expr → List EE → Prop where
  | nil : EvJ G X Wx [] []
  | cons {e : Expr} {m : EE} {es : List Expr} {ms : List EE} (h : EvE G X Wx e m) (r : EvJ G X Wx es ms) : EvJ G X Wx (e :: es) (m :: ms)
theorem EvJ.pj {es : List Expr} {ms : List EE} (h : EvJ G X Wx es ms) : PJ X es (ms.map (tE G X Wx)) := by
  induction h with
  | nil => exact .nil
  | cons h r ih => exact .cons h ih
theorem js_run {Wx : WX} : ∀ {ms : List EE} {acc : Str} {σ : L2.St} {H : Hp} {Q : VK} {W : Wd} {st : Sto} {sl : Sl}, WOk G (LX X sl.lk σ) W H st → RepS G W H σ sl → postE G (LX X sl.lk σ) Wx σ W H Q (jsM ms acc sl st) → tJs (ms.map (tE G X Wx)) acc σ H fun out H1 => Q (.str out) H1
  | [], acc, σ, H, Q, W, st, sl, w, rs, h => post.same (v := V.str acc) h w (.str acc)
  | m :: ms, acc, σ, H, Q, W, st, sl, w, rs, h => by
    refine tG_imp (one (rel' := Rep G) w rs h) fun x H1 ⟨W1, st1, d, e1, w1, rs1, rr, _, h1⟩ => ?_
    cases d with
    | str y =>
      cases rep_str rr
      have h1 : postE G (LX X sl.lk σ) Wx σ W1 H1 Q (if (acc ++ y).length ≤ 1000000 then jsM ms (acc ++ y) sl st1 else .bad) := h1
      split at h1
      · rename_i hz
        exact ⟨y, rfl, small hz, js_run w1 rs1 h1⟩
      · exact False.elim h1
    | _ => exact False.elim h1
theorem ev_js {v1 v2 : Expr} {rest : List Expr} {ms : List EE} (h : EvJ G X Wx (v1 :: v2 :: rest) ms) : EvE G X Wx (.JoinedStr (v1 :: v2 :: rest) pos) (eJs ms) :=
  PE.imp (pe_joined h.pj) fun σ H Q ⟨W, st, sl, w, rs, h⟩ => js_run w rs h
theorem ev_js1 (he : EvE G X Wx e me) : EvE G X Wx (.JoinedStr [e] pos) me := pe_joined1 he
/-! ### o.m(k = v, ..) -/
abbrev EvK (G : Gc) (X : Cx) (Wx : WX) (ks : List Keyword) (m : EA) : Prop := PK X ks (tA G X Wx m)
theorem PK.imp {ks : List Keyword} {t t' : TA} (h : PK X ks t) (k : ∀ σ H Q, t' σ H Q → t σ H Q) : PK X ks t' := ⟨fun pos pins s σ H Q I q => h.run pos pins s σ H Q I (k σ H Q q)⟩
theorem ek_nil : EvK G X Wx [] aNil := PK.imp pk_nil fun σ H Q ⟨W, st, sl, w, rs, h⟩ => post.same (v := []) h w .nil
theorem ek_cons {nm : Option Str} {kws : List Keyword} (ha : EvE G X Wx e me) (hr : EvK G X Wx kws ma) : EvK G X Wx (⟨nm, e, kpos⟩ :: kws) (aCons me ma) :=
  PK.imp (pk_cons ha hr) fun σ H Q ⟨W, st, sl, w, rs, h⟩ => tG_imp (one (rel' := Rep G) w rs h) fun x H1 ⟨W1, st1, d, e1, w1, rs1, rr, _, h1⟩ =>
    tG_imp (one (rel' := RepL G) w1 rs1 h1) fun xs H2 ⟨W2, st2, d2, e2, w2, rs2, rr2, _, h2⟩ => h2.same w2 (.cons (rr.see e2.sees) rr2)
def eMethK (T : Tb) (m : Str) (ks : List Str) (me : EE) (mk : EA) : EE := fun sl st => (me sl st).bind fun d st => match look T m d st with
  | some (q, ds) => match T.kw q ds.length ks with
    | some pl => (mk sl st).bind fun es => if es.length = ks.length then T.run q (pl ds es) else fun _ => .bad
    | none => .bad
  | none => .bad
theorem En.callK (N : En G X Wx k T) {A : Around} {q : Str} {n : Nat} {ks : List Str} {pl : List D → List D → List D} {us ws : List Value} {vs zs : List V} {ds es : List D} {pins : List (Addr × Obj)} {σ : L2.St} {H : Hp} {s : Shared} {L : Addr → V → Prop} {W : Wd} {st : Sto} {Q : VK} (hq : T.kw q n ks = some pl) (hr : Room k A) (hgd : A.guards = some []) (e0 : Env0 X.prog X.w X.K X.mg X.base A X.stack s H) (I : Inv X pins σ H s)
    (r : Vals vs us) (rz : Vals zs ws) (l1 : us.length = n) (l2 : ws.length = ks.length) (hL : Lok L) (w : WOk G L W H st) (rl : RepL G W H vs ds) (rlz : RepL G W H zs es)
    (h : postE G L Wx σ W H Q (T.run q (pl ds es) st)) : codeAny (model X.prog X.w) A (.call (.ref (G.fa q)) ⟨us, ks.zip ws⟩) (fun r s' => match r with | .ok (.ret v) => EP X pins σ Q v s' | .ok _ => False | .error e => X.xe e s') s :=
  runK (N.fk q n ks pl hq) N.hK hr hgd e0 N.tk I r rz l1 l2 hL w rl rlz h
theorem ev_methK {pl : Sem Bool} {o : Expr} {m : Str} {me : EE} {mk : EA} {kws : List Keyword} {ks : List Str} (N : En G X Wx k T) (he : EvE G X Wx o me) (ha : EvK G X Wx kws mk)
    (hall : (backToKw pos (keywordEach kws X.env)).all (·.1.isSome) = true := by rfl) (hks : (backToKw pos (keywordEach kws X.env)).filterMap (·.1) = ks := by rfl)
    (hpn : ((backTo pos (starEach [] X.env)).any (·.1) || (backToKw pos (keywordEach kws X.env)).any (·.1.isNone)) = false := by rfl)
    (ht : eval (.Call (.Attribute o m apos) [] kws pos) X.env = (do
      let ov ← eval o X.env
      standAt apos.atName
      let (f, first) ← holding [ov] (getMethod ov m pl)
      callWith pos f first (backTo pos (starEach [] X.env)) (backToKw pos (keywordEach kws X.env))) := by rfl) :
    EvE G X Wx (.Call (.Attribute o m apos) [] kws pos) (eMethK T m ks me mk) := by
  refine ⟨fun pins s σ H Q I ⟨W, st, sl, w, rs, h⟩ => ?_⟩
  refine PySem.W.methodCall_KW (pl := pl) (thn (he.run pins s σ H _ I (one w rs h)) fun u s1 ⟨x, H1, I1, rx, W1, st1, d, e1, w1, rs1, rr, _, h1⟩ => ?_) ht
  have hr : Room k X.A := N.rm.mono (by omega)
  split at h1
  · rename_i q ds hq
    split at h1
    · rename_i pl' hkw
      unfold look at hq
      split at hq
      · rename_i c _
        cases rr with
        | glo =>
          obtain rfl : u = Value.ref (G.ga c) := rx
          split at hq
          · rename_i q' hk
            cases hq
            have K := N.kd c m
            rw [hk] at K
            obtain ⟨r, p, cm⟩ := K
            obtain ⟨rest, hp⟩ := cm.rc
            refine PySem.W.method_cls I1.kIn r.ga (PySem.W.cls_bind I1.kIn r.rd cm.at_ (wpAny_call (PySem.W.sm_get (s := { s1 with toks := s1.toks + 1 }) I1.kIn hp (PySem.W.handed_on rfl ?_))))
            have I2 : Inv X pins σ H1 { s1 with toks := s1.toks + 1 } := I1.tok _
            refine PySem.W.callWith_KW0 (h₀ := X.base) I2.ok.mod.kin cm.kp hall (thn (ha.run pos pins _ σ H1 _ I2 (one w1 rs1 h1)) fun ws s3 ⟨zs, H2, I3, rz, W2, st2, d2, e2, w2, rs2, rl, _, h2⟩ => ⟨I3.kIn, ?_⟩) hpn
            rw [hks]
            split at h2
            · rename_i hl
              exact wpAny_call (N.callK hkw (us := []) (vs := []) (ds := []) hr N.gd I3.env0 I3 .nil rz rfl (by rw [← rz.length, rl.len]; exact hl) (lok_of rs2) w2 .nil rl h2)
            · exact False.elim h2
          · rename_i q' hk
            cases hq
            have K := N.kd c m
            rw [hk] at K
            obtain ⟨r, p, cm⟩ := K
            refine ClX.getmethcm_ok I1 r cm fun s2 I2 => ?_
            refine PySem.W.callWith_of (P := PySem.W.MethP X.K s1.heap.objs.size (G.fa q) (.ref (G.ga c))) hpn (PySem.W.keeps_M cm.fi) (evalArgs_kw2_nil hall (thn (ha.run pos _ s2 σ H1 _ I2 (one w1 rs1 h1)) fun ws s3 ⟨zs, H2, I3, rz, W2, st2, d2, e2, w2, rs2, rl, _, h2⟩ => ⟨⟨ClX.pin_at I3, I3.kIn⟩, ?_⟩))
            rw [hks]
            split at h2
            · rename_i hl
              have z := wpAny_call (PySem.W.method_call (ClX.pin_at I3) (N.callK hkw (us := [.ref (G.ga c)]) (vs := [.ref (G.ga c)]) (ds := [.glo c]) hr N.gd I3.env0 I3 (.cons rfl .nil) rz rfl (by rw [← rz.length, rl.len]; exact hl) (lok_of rs2) w2 (.cons (.glo c) .nil) rl h2))
              exact thn z fun _ _ y => ClX.unpinE y
            · exact False.elim h2
          · cases hq
      · split at hq
        · rename_i c gs hc
          obtain ⟨a, dx, fs, rfl, ea, rf⟩ := ins_at w1 rr hc
          obtain rfl : u = Value.ref a := rx
          split at hq
          · rename_i q' hk
            split at hq
            · rename_i hl
              cases hq
              have K := N.kd c m
              rw [hk] at K
              refine getmeth_ok I1 ea K.1 K.2 (rf.no hl) ?_
              refine PySem.W.callWith_KW0 (first := [.ref a]) (h₀ := X.base) I.ok.mod.kin K.2.kp hall (thn (ha.run pos pins s1 σ H1 _ I1 (one w1 rs1 h1)) fun ws s2 ⟨zs, H2, I2, rz, W2, st2, d2, e2, w2, rs2, rl, _, h2⟩ => ⟨I2.kIn, ?_⟩) hpn
              rw [hks]
              split at h2
              · rename_i hl
                exact wpAny_call (N.callK hkw (us := [.ref a]) (vs := [.ref a]) (ds := [d]) hr N.gd I2.env0 I2 (.cons rfl .nil) rz rfl (by rw [← rz.length, rl.len]; exact hl) (lok_of rs2) w2 (.cons (rr.see e2.sees) .nil) rl h2)
              · exact False.elim h2
            · cases hq
          · cases hq
        · cases hq
    · exact False.elim h1
  · exact False.elim h1
end
end MP
set_option Elab.async false
set_option linter.all false
set_option maxRecDepth 100000
set_option maxHeartbeats 1000000
namespace MP
open PySem PySem.Spec PyProof.Rows L2 SP
/-! ### methods of lists and texts -/
def eBm (c : D → Sto → Bool) (m : D → List D → MM D) (mo : EE) (ma : EA) : EE := fun sl st => (mo sl st).bind fun o st => if c o st = true then (ma sl st).bind fun xs => m o xs else .bad
def isStrD (d : D) (_ : Sto) : Bool := match d with | .str _ => true | _ => false
def isLstD (d : D) (st : Sto) : Bool := (seqOf d st).isSome
def mAppend (o : D) (ds : List D) : MM D := fun st => match o, ds with
  | .mref k, [y] => match st[k]? with
    | some (.lst xs) => if xs.length < 1000000 then .ok .non (st.set k (.lst (xs ++ [y]))) else .bad
    | _ => .bad
  | _, _ => .bad
def mSplit (o : D) (ds : List D) : MM D := fun st => match o, ds with
  | .str a, [.str b] => if (b.length == 0) = false ∧ a.length + 2 ≤ 1000000 then .ok (.lst ((Txt.split a b).map .str)) st else .bad
  | _, _ => .bad
def strsOf : List D → Option (List Str)
  | [] => some []
  | .str b :: ds => (strsOf ds).map (b :: ·)
  | _ => none
def mJoin (o : D) (ds : List D) : MM D := fun st => match o, ds with
  | .str a, [d] => match itemsOf d st with
    | some xs => match strsOf xs with
      | some ys => if (ys.map (·.length)).sum + ys.length * a.length ≤ 1000000 then .ok (.str (Txt.join a ys)) st else .bad
      | none => .bad
    | none => .bad
  | _, _ => .bad
section
variable {G : Gc} {X : Cx} {Wx : WX} {k : Nat} {T : Tb} {apos cpos : Pos} {e o : Expr} {es : List Expr} {mo : EE} {ma : EA} {name : Str} {Ty id : String} {r : V → List V → Hp → VK → Prop} {m : D → List D → MM D}
/-- a method of a built-in type -/
theorem ev_bm {c : D → Sto → Bool} (pa : PlainAttrs Ty) (slot : Slot Ty name id) (hty : typeOf (.builtin id) = pure (.type "method_descriptor")) (hm : MtR X id r) (ho : EvE G X Wx o mo) (ha : EvA G X Wx (e :: es) ma)
    (h1 : ∀ (W : Wd) (H : Hp) (L : Addr → V → Prop) (st : Sto) (x : V) (d : D), WOk G L W H st → Rep G W H x d → c d st = true → tyV X.K Ty x H)
    (h2 : ∀ (σ : L2.St) (W : Wd) (H : Hp) (L : Addr → V → Prop) (st : Sto) (x : V) (xs : List V) (d : D) (ds : List D) (Q : VK), WOk G L W H st → Rep G W H x d → RepL G W H xs ds → postE G L Wx σ W H Q (m d ds st) → r x xs H Q)
    (hbase : attributeBase o name X.env (eval o X.env) = eval o X.env)
    (hfew : ((backTo cpos (starEach (e :: es) X.env)).all (fun x => !x.1) && (backToKw cpos (keywordEach [] X.env)).all (fun x => x.1.isSome)
      && decide ((e :: es).length + ([] : List Keyword).length + (if ([] : List Keyword).isEmpty then 0 else 1) < 30)) = true)
    (hline : (apos.endLine == cpos.line) = true) (hs : starEach (e :: es) X.env = (false, eval e X.env) :: starEach es X.env) (hplain : (backTo cpos (starEach es X.env)).any (·.1) = false) :
    EvE G X Wx (.Call (.Attribute o name apos) (e :: es) [] cpos) (eBm c m mo ma) := by
  refine PE.imp (pe_bm pa slot hty hm ho ha hbase hfew hline hs hplain) fun σ H Q ⟨W, st, sl, w, rs, h⟩ => ?_
  refine tG_imp (one (rel' := Rep G) w rs h) fun x H1 ⟨W1, st1, d, e1, w1, rs1, rr, _, q1⟩ => ?_
  split at q1
  · rename_i hc
    refine ⟨h1 W1 H1 _ st1 x d w1 rr hc, tG_imp (one (rel' := RepL G) w1 rs1 q1) fun xs H2 ⟨W2, st2, ds, e2, w2, rs2, rl, _, q2⟩ => ?_⟩
    exact h2 σ W2 H2 _ st2 x xs d ds Q w2 (rr.see e2.sees) rl q2
  · exact False.elim q1
theorem ty_str {W : Wd} {H : Hp} {L : Addr → V → Prop} {st : Sto} {x : V} {d : D} (w : WOk G L W H st) (r : Rep G W H x d) (h : isStrD d st = true) : tyV X.K "str" x H := by
  cases d <;> first | (cases r; rfl) | cases h
theorem ty_lst {W : Wd} {H : Hp} {L : Addr → V → Prop} {st : Sto} {x : V} {d : D} (w : WOk G L W H st) (r : Rep G W H x d) (h : isLstD d st = true) : tyV X.K "list" x H := by
  unfold isLstD at h
  cases q : seqOf d st with
  | none => rw [q] at h; cases h
  | some xs =>
    obtain ⟨a, vs, rfl, ha, _⟩ := seq_at w r q
    exact .inl ⟨rfl, vs, SqL.of ha⟩
def m_append (T : Tb) : EE → EA → EE := eBm isLstD mAppend
def m_split (T : Tb) : EE → EA → EE := eBm isStrD mSplit
def m_join (T : Tb) : EE → EA → EE := eBm isStrD mJoin
theorem strs_at {W : Wd} {H : Hp} : ∀ {ds : List D} {vs : List V} {bs : List Str}, RepL G W H vs ds → strsOf ds = some bs → vs = bs.map V.str
  | [], _, _, r, e => by cases r; cases e; rfl
  | d :: ds, _, _, r, e => by
    cases r with
    | cons r1 r2 =>
      cases d with
      | str b =>
        have e : (strsOf ds).map (b :: ·) = some _ := e
        cases q : strsOf ds with
        | none => rw [q] at e; cases e
        | some l => rw [q] at e; cases e; cases rep_str r1; rw [strs_at r2 q]; rfl
      | _ => cases e
theorem rep_strs {W : Wd} {H : Hp} : ∀ (bs : List Str), RepL G W H (bs.map V.str) (bs.map D.str)
  | [] => .nil
  | b :: bs => .cons (.str b) (rep_strs bs)
section
variable (N : En G X Wx k T) (ho : EvE G X Wx o mo) (ha : EvA G X Wx (e :: es) ma)
include N ho ha
theorem ev_m_append (hbase : attributeBase o "append" X.env (eval o X.env) = eval o X.env := by rfl)
    (hfew : ((backTo cpos (starEach (e :: es) X.env)).all (fun x => !x.1) && (backToKw cpos (keywordEach [] X.env)).all (fun x => x.1.isSome)
      && decide ((e :: es).length + ([] : List Keyword).length + (if ([] : List Keyword).isEmpty then 0 else 1) < 30)) = true := by rfl)
    (hline : (apos.endLine == cpos.line) = true := by rfl) (hs : starEach (e :: es) X.env = (false, eval e X.env) :: starEach es X.env := by rfl) (hplain : (backTo cpos (starEach es X.env)).any (·.1) = false := by rfl) :
    EvE G X Wx (.Call (.Attribute o "append" apos) (e :: es) [] cpos) (m_append T mo ma) := by
  refine ev_bm PySem.F.plainAttrs_list PySem.F.slot_list_append PySem.F.type_list_append mt_append ho ha (fun W H L st x d w r h => ty_lst w r h) (fun σ W H L st x xs d ds Q w rr rl h => ?_) hbase hfew hline hs hplain
  unfold mAppend at h
  split at h
  · rename_i k y
    split at h
    · rename_i zs hz
      split at h
      · rename_i hl
        cases rr with
        | mref hm =>
          rename_i a
          cases rl with
          | cons r1 r2 =>
            cases r2
            rename_i v
            obtain ⟨hf, vs, hH, rv⟩ := w.lst_mu hm hz
            refine ⟨a, vs, _, rfl, rfl, hH, Nat.lt_of_lt_of_le (by rw [rv.len]; exact hl) (small (Nat.le_refl _)), ?_⟩
            have se : Sees W H W (upd H a (.lst (vs ++ [v]))) := upd_sees hf
            exact h .non _ W (upd_ext hm hf (by rw [hH]; simp)) (upd_ok w hm hf ⟨hf, _, upd_same, (rv.see se).app (.cons (r1.see se) .nil)⟩) .non
      · exact False.elim h
    · exact False.elim h
  · exact False.elim h
theorem ev_m_split (hbase : attributeBase o "split" X.env (eval o X.env) = eval o X.env := by rfl)
    (hfew : ((backTo cpos (starEach (e :: es) X.env)).all (fun x => !x.1) && (backToKw cpos (keywordEach [] X.env)).all (fun x => x.1.isSome)
      && decide ((e :: es).length + ([] : List Keyword).length + (if ([] : List Keyword).isEmpty then 0 else 1) < 30)) = true := by rfl)
    (hline : (apos.endLine == cpos.line) = true := by rfl) (hs : starEach (e :: es) X.env = (false, eval e X.env) :: starEach es X.env := by rfl) (hplain : (backTo cpos (starEach es X.env)).any (·.1) = false := by rfl) :
    EvE G X Wx (.Call (.Attribute o "split" apos) (e :: es) [] cpos) (m_split T mo ma) := by
  refine ev_bm PySem.F.plainAttrs_str PySem.F.slot_str_split PySem.F.type_str_split mt_split ho ha (fun W H L st x d w r h => ty_str w r h) (fun σ W H L st x xs d ds Q w rr rl h => ?_) hbase hfew hline hs hplain
  unfold mSplit at h
  split at h
  · split at h
    · rename_i hz
      cases rl with
      | cons r1 r2 =>
        cases r2
        cases rep_str rr
        cases rep_str r1
        exact ⟨_, _, rfl, rfl, hz.1, small hz.2, new_lst w (rep_strs _) h⟩
    · exact False.elim h
  · exact False.elim h
theorem ev_m_join (hbase : attributeBase o "join" X.env (eval o X.env) = eval o X.env := by rfl)
    (hfew : ((backTo cpos (starEach (e :: es) X.env)).all (fun x => !x.1) && (backToKw cpos (keywordEach [] X.env)).all (fun x => x.1.isSome)
      && decide ((e :: es).length + ([] : List Keyword).length + (if ([] : List Keyword).isEmpty then 0 else 1) < 30)) = true := by rfl)
    (hline : (apos.endLine == cpos.line) = true := by rfl) (hs : starEach (e :: es) X.env = (false, eval e X.env) :: starEach es X.env := by rfl) (hplain : (backTo cpos (starEach es X.env)).any (·.1) = false := by rfl) :
    EvE G X Wx (.Call (.Attribute o "join" apos) (e :: es) [] cpos) (m_join T mo ma) := by
  refine ev_bm PySem.F.plainAttrs_str PySem.F.slot_str_join PySem.F.type_str_join mt_join ho ha (fun W H L st x d w r h => ty_str w r h) (fun σ W H L st x xs d ds Q w rr rl h => ?_) hbase hfew hline hs hplain
  unfold mJoin at h
  split at h
  · split at h
    · rename_i zs hz
      split at h
      · rename_i ys hy
        split at h
        · rename_i hl
          cases rl with
          | cons r1 r2 =>
            cases r2
            cases rep_str rr
            obtain ⟨a, vs, rfl, hq, rv⟩ := items_at (X := X) w r1 hz
            have e := strs_at rv hy
            subst e
            exact ⟨_, a, ys, rfl, rfl, hq, by omega, h.same w (.str _)⟩
        · exact False.elim h
      · exact False.elim h
    · exact False.elim h
  · exact False.elim h
end
end
/-! ### name = [.. for ..] -/
section
variable {G : Gc} {X : Cx} {Wx : WX} {k : Nat} {T : Tb}
theorem ev_setLc {i : Nat} {y : Str} {py : Pos} {elt tg iter : Expr} {ifs : List Expr} {scope : Scope} {own : List (Str × Nat)} {pos spos : Pos} {mi : EI} {g : TM} {mc : ET} {me : EE} (hc : X.calm = true) (hN : X.N.Nodup) (hy : X.N[i]? = some y) (hyl : X.env.scope.names.lookup y = some .local)
    (hsw : swapsWith (.ListComp elt [⟨tg, iter, ifs, 0⟩] scope pos) (some (.Name y py)) spos.line X.env = pure true) (hi : EvI G X Wx tg iter mi) (ok : BlkOk X.N X.env.scope scope own)
    (hg : ∀ (s : Shared) (H : Hp) (C : Addr) (cl : List (Str × Addr)) (fp : List Addr), EvM G (X.blk s H scope (compEnvC scope cl C X.env) fp) (own.map (·.2)) tg g)
    (ht : ∀ (s : Shared) (H : Hp) (C : Addr) (cl : List (Str × Addr)) (fp : List Addr), EvTs G (X.blk s H scope (compEnvC scope cl C X.env) fp) ifs mc)
    (he : ∀ (s : Shared) (H : Hp) (C : Addr) (cl : List (Str × Addr)) (fp : List Addr), EvE G (X.blk s H scope (compEnvC scope cl C X.env) fp) WF elt me) (hs : ∀ x, foldedSetIterable iter X.env x = pure x := by intro _; rfl) :
    EvS G X Wx (.Assign [.Name y py] (.ListComp elt [⟨tg, iter, ifs, 0⟩] scope pos) spos) (sSet i (eLc mi g mc me (own.map (·.2)))) := by
  refine PS.imp (ps_setLc hc hN hy hyl hsw hi ok hg (fun s H C cl fp => PTs.imp (ht s H C cl fp) fun σ H Q (z : tT G X WF mc σ H Q) => tG_cx z) (fun s H C cl fp => PE.imp (he s H C cl fp) fun σ H Q (z : tE G X WF me σ H Q) => tG_cx z) hs) fun Z σ H ⟨n, W, st, sl, hl, w, rs, h⟩ => ?_
  refine lc_read (G := G) (X := X) (Wx := Wx) (tG_imp (oneS (rel := Rep G) hl w rs h) fun v H1 ⟨W1, st1, d, hl1, e1, w1, rs1, r, _, q⟩ => ?_)
  exact q _ H1 W1 Ext.refl w1 (rs1.set r)
end
end MP
set_option Elab.async false
set_option linter.all false
set_option maxRecDepth 100000
set_option maxHeartbeats 1000000
namespace MP
open PySem PySem.Spec PyProof.Rows L2 SP
/-! ### {}, {"k": c} -/
def eDic (kvs : List (Key × D)) : EE := fun _ st => .ok (.dic kvs) st
section
variable {G : Gc} {X : Cx} {Wx : WX} {k : Nat} {T : Tb} {pos p1 : Pos} {e : Expr} {j : Nat}
theorem ev_dic0 : EvE G X Wx (.Dict [] [] pos) (eDic []) := PE.imp pe_dnewK fun σ H Q ⟨W, st, sl, w, rs, h⟩ p hp =>
  h _ _ (W.add p) (add_ext w hp) (add_ok w hp fun _ z => nomatch z) (.dic (.inr rfl) upd_same .nil)
theorem ev_dic1 {z : Str} {v : V} {d : D} (hv : PE X e (tC v)) (r : ∀ W H, Rep G W H v d) : EvE G X Wx (.Dict [some (.Constant (.str z) j p1)] [e] pos) (eDic [(.inr z, d)]) :=
  PE.imp (pe_disp (pps_cons pe_str hv pps_nil) rfl rfl (by simp) (by simp)) fun σ H Q ⟨W, st, sl, w, rs, h⟩ p hp => by
    refine ⟨upd_same, [(.inr z, v)], rfl, by simp, ?_⟩
    have e : upd (upd H p (.dK [])) p (.dK (mergeK [] [(.inr z, v)])) = upd H p (.dK [(.inr z, v)]) := by
      funext b
      by_cases q : b = p
      · rw [q, upd_same, upd_same]; rfl
      · rw [upd_ne q, upd_ne q, upd_ne q]
    rw [e]
    exact h _ _ (W.add p) (add_ext w hp) (add_ok w hp fun _ z => nomatch z) (.dic (.inr rfl) upd_same (.cons (r _ _) .nil))
end
/-! ### how many a target takes -/
theorem gl_nil (ds : List D) (n : Nat) (sl : Sl) (st : Sto) (h : ds.length ≠ 0) : gNil ds n sl st = .bad := by
  cases ds with
  | nil => exact absurd rfl h
  | cons d ds => rfl
theorem gl_cons {m : SG} {ms : SGs} {nn : Nat} (h : ∀ ds n sl st, ds.length ≠ nn → ms ds n sl st = .bad) (ds : List D) (n : Nat) (sl : Sl) (st : Sto) (hl : ds.length ≠ nn + 1) : gC m ms ds n sl st = .bad := by
  cases ds with
  | nil => rfl
  | cons d ds =>
    show (match m d n sl st with | .nx sl st => ms ds n sl st | _ => .bad) = .bad
    split
    · exact h _ _ _ _ (by simpa using hl)
    · rfl
/-! ### a def by position: the last parameters filled up by the defaults -/
def fill (np : Nat) (dd : List D) (ds : List D) : List D := ds ++ dd.drop (ds.length + dd.length - np)
theorem FS_of {P : Program} {w : World} {G : Gc} {mg : Str → Option Value} {base : Heap} {k np : Nat} {f : Addr} {dd : List D} {M : List D → MM D} (hd : dd.length ≤ np) (hM : ∀ ds st, ds.length ≠ np → M ds st = .bad)
    (h : ∀ n, np ≤ n + dd.length → n ≤ np → FK P w G mg base k f n [] (fun ds _ => M (ds ++ dd.drop (n + dd.length - np)))) : FS P w G mg base k f (fun ds => M (fill np dd ds)) := by
  intro A fr s H us vs Q E hr hg e0 r ⟨W, st, ds, w', rl, hq⟩
  have hl : (fill np dd ds).length = np := by
    by_cases q : (fill np dd ds).length = np
    · exact q
    · have hq : postF G W H Q E (M (fill np dd ds) st) := hq
      rw [hM _ _ q] at hq
      exact False.elim hq
  unfold fill at hl
  rw [List.length_append, List.length_drop] at hl
  have l1 : us.length = ds.length := by rw [← r.length, rl.len]
  exact h ds.length (by omega) (by omega) A fr s H us [] vs [] Q E hr hg e0 r .nil l1 rfl ⟨W, st, ds, [], w', rl, .nil, hq⟩
/-- a call by position binds -/
theorem plan_pos {G : Gc} {fd : FuncData} {ps : List Str} {n : Nat} {ds0 : List Value} {dvs0 : List V} {dd0 : List D} (hb : Binds G.K fd ps ds0) (hn : n + ds0.length = ps.length) (hd : Vals dvs0 ds0) (hr : ∀ W H, RepL G W H dvs0 dd0) : Plan G fd ps n [] (fun ds _ => ds ++ dd0) :=
  ⟨fun us _ => us ++ ds0, fun vs _ => vs ++ dvs0, fun s us ws X l1 l2 => hb s us X (by rw [List.length_append, l1]; exact hn), fun r _ _ _ => r.append hd, fun r _ _ _ => r.app (hr _ _)⟩
end MP
set_option Elab.async false
set_option linter.all false
set_option maxRecDepth 100000
set_option maxHeartbeats 1000000
namespace MP
open PySem PySem.Spec PyProof.Rows L2 SP
/-! ### a law's table out of lists -/
structure Bd where
  keep : Bool
  np : Nat
  nN : Nat
  dd : List D
  body : Tb → SS
def pick {α : Type} (ix : List Nat) (l : List α) : List α := ix.filterMap (l[·]?)
def isSub (mroL : List (Str × List Str)) (c d : Str) : Option Bool := (mroL.lookup c).map (·.contains d)
def kitOf (mroL : List (Str × List Str)) (xclL testL : List Str) (testB : List String) : Ty → Ty → Option Bool
  | .own c, .own d => if testL.contains d then isSub mroL c d else none
  | .xc c, .own d => if testL.contains d then isSub mroL c d else none
  | .bi t, .own d => if testL.contains d && biT.contains t then some false else none
  | .xc c, .bi t => if testB.contains t && ((mroL.lookup c).isSome && (xclL.contains c && t == "ValueError")) then some true else none
  | .own c, .bi t => if testB.contains t && ((mroL.lookup c).isSome && !xclL.contains c) then some false else none
  | _, _ => none
def staOf (gloL : List (Str × GK)) (kindL : List ((Str × Str) × Kd)) (instL xclL : List Str) (mroL : List (Str × List Str)) (xflL : List (Str × List Str)) (testL : List Str) (testB : List String) (kwL : List ((Str × Nat × List Str) × List Nat)) (run : Str → List D → MM D) : Tb where
  glo x := gloL.lookup x
  kind c f := (kindL.lookup (c, f)).getD .unk
  run := run
  kw q n ks := (kwL.lookup (q, n, ks)).map fun ix ds es => pick ix (ds ++ es)
  inst c := instL.contains c
  xcl c := xclL.contains c
  kit := kitOf mroL xclL testL testB
  nsub c d := instL.contains c && (instL.contains d && isSub mroL c d == some false)
  xfl c := xflL.lookup c
  exm c x := xclL.contains c && (xclL.contains x && isSub mroL c x == some true)
/-! ### the lists of a law -/
structure Lists where
  gloL : List (Str × GK)
  kindL : List ((Str × Str) × Kd)
  instL : List Str
  xclL : List Str
  mroL : List (Str × List Str)
  xflL : List (Str × List Str)
  testL : List Str
  testB : List String
  kwL : List ((Str × Nat × List Str) × List Nat)
def Lists.sta (l : Lists) (run : Str → List D → MM D) : Tb := staOf l.gloL l.kindL l.instL l.xclL l.mroL l.xflL l.testL l.testB l.kwL run
noncomputable def rnOf (sta : (Str → List D → MM D) → Tb) (dfs : List (Str × Bd)) : Nat → Str → List D → MM D
  | 0 => fun _ _ _ => .bad
  | j + 1 => fun q ds => match dfs.lookup q with
    | some b => mFn b.keep b.np b.nN (b.body (sta (rnOf sta dfs j))) (fill b.np b.dd ds)
    | none => fun _ => .bad
end MP
set_option Elab.async false
set_option linter.all false
set_option maxRecDepth 100000
set_option maxHeartbeats 1000000
namespace SP
open PySem PySem.Spec PyProof.Rows L2
/-! ### the Hook: facts as functions to Bool, the frame from chosen names -/
abbrev FaB := PySem.W.Frag → Bool
def growN (g : Addr → Option Obj) (as : List Addr) : Nat → List Addr
  | 0 => as
  | n + 1 => He.growD g (growN g as n)
def asS (xs : List Str) (n : Nat) (g : Addr → Option Obj) : List Addr := growN g (xs.map (He.ga (He.frG g [mainGlobals]))) n ++ [mainGlobals, PySem.cStatics]
def obsB (fa : List FaB) (fn : List He5.DefA) (K : PySem.W.Frag) : He.AlD := ((fa.all fun f => f K) && fn.all fun d => d.ok K, fn.map fun d => He5.fnA K (d.at_ K))
def valB (fn : List He5.DefA) : He.AlD := (true, fn.map He5.DefA.val)
def SaysB (fa : List FaB) (fn : List He5.DefA) (K : PySem.W.Frag) : Prop := obsB fa fn K = valB fn
def obsBG (xs : List Str) (n : Nat) (fa : List FaB) (fn : List He5.DefA) (g : Addr → Option Obj) : He.AlD := obsB fa fn (He.frG g (asS xs n g))
def hookB (xs : List Str) (n : Nat) (fa : List FaB) (fn : List He5.DefA) : PySem.W.Hook where
  α := He.AlD
  obs := fun s => obsBG xs n fa fn s.heap.get?
  val := fun _ => valB fn
  says := fun _ h => ∃ K : PySem.W.Frag, K.In h ∧ SaysB fa fn K
  of := fun _ _ e => ⟨_, He.frG_in, e⟩
  keeps := fun _ _ _ ⟨K, hK, c⟩ k => ⟨K, PySem.W.Frag.In.keeps hK k, c⟩
theorem obsBG_eq {xs : List Str} {n : Nat} {fa : List FaB} {fn : List He5.DefA} {g : Addr → Option Obj} {s : Shared} (h : ∀ a, g a = s.heap.get? a) : obsBG xs n fa fn g = (hookB xs n fa fn).obs s := by
  have e : g = s.heap.get? := funext h
  rw [e] <;> rfl
section
variable {fa : List FaB} {fn : List He5.DefA} {K : PySem.W.Frag}
theorem SaysB.fact (c : SaysB fa fn K) (i : Nat) {f : FaB} (h : fa[i]? = some f) : f K = true := by
  have c1 := (He.ba (show ((fa.all fun f => f K) && fn.all fun d => d.ok K) = true from congrArg (fun z : He.AlD => z.1) c)).1
  exact List.all_eq_true.mp c1 f (List.mem_of_getElem? h)
theorem SaysB.def_ (c : SaysB fa fn K) (i : Nat) {d : He5.DefA} (h : fn[i]? = some d) : ∃ fd, L2.FunD K d.name d.qual d.params d.body d.scope (d.dvs K) (d.kws K) (d.at_ K) fd := by
  have c2 := (He.ba (show ((fa.all fun f => f K) && fn.all fun d => d.ok K) = true from congrArg (fun z : He.AlD => z.1) c)).2
  have e : fn.map (fun d => He5.fnA K (d.at_ K)) = fn.map He5.DefA.val := congrArg (fun z : He.AlD => z.2) c
  have e2 : (fn.map fun d => He5.fnA K (d.at_ K))[i]? = (fn.map He5.DefA.val)[i]? := by rw [e]
  rw [List.getElem?_map, List.getElem?_map, h] at e2
  exact He5.DefA.funD (Option.some.inj e2) (List.all_eq_true.mp c2 d (List.mem_of_getElem? h))
end
/-! ### the facts -/
def vNone : Value := .type "NoneType"
def bFa (f : He.Fa) : FaB := fun K => f.ok K
def bFind (x m : Str) (v : Value) : FaB := fun K => He.eqO (PySem.W.findIn K (.ref (He.ga K x)) m) (some (some v))
def bCls (x : Str) : FaB := fun K => He.eqO (PySem.W.specialIn K (.builtin "object.__class__") "__get__") (some (some (.builtin "getset_descriptor.__get__"))) && decide (PySem.W.takesIn K (.builtin "object.__class__") = some true)
def bObj (x : Str) : FaB := fun K => decide (PySem.W.mroIn K (He.ga K x) (.type "object") = some true)
/-- isinstance of a value of an own class | a built-in one -/
def bKitO (y x : Str) (b : Bool) : FaB := fun K => decide (PySem.W.kitOne K (.ref (He.ga K y)) (.ref (He.ga K x)) = some b)
def bKitT (t : String) (x : Str) (b : Bool) : FaB := fun K => decide (PySem.W.kitOne K (.type t) (.ref (He.ga K x)) = some b)
def bNfO (x y : Str) : FaB := fun K => PySem.W.notFirst K (He.ga K x) (.ref (He.ga K y))
def bNfT (x : Str) (t : String) : FaB := fun K => PySem.W.notFirst K (He.ga K x) (.type t)
def bOwn (x m : Str) : FaB := fun K => He.eqO (PySem.W.findIn K (.ref (He.ga K x)) m) (some (some (.ref (He.ma K (He.ga K x) m)))) && PySem.W.isFn K (.ref (He.ma K (He.ga K x) m))
def bRead (x : Str) : FaB := fun K => PySem.W.readsIn K (He.ga K x) (.type "type")
def bStat (x m : Str) : FaB := fun K => He5.wrapB K (He.ga K x) "staticmethod" "staticmethod.__get__" m && PySem.W.keepIn K (.ref (He5.wf K (He.ga K x) "staticmethod" m))
theorem bCls_ok {x : Str} {K : PySem.W.Frag} (h : bCls x K = true) : PySem.W.specialIn K (.builtin "object.__class__") "__get__" = some (some (.builtin "getset_descriptor.__get__")) ∧ PySem.W.takesIn K (.builtin "object.__class__") = some true := by
  obtain ⟨h1, h2⟩ := He.ba h
  exact ⟨He.eqO_ok h1, of_decide_eq_true h2⟩
theorem bOwn_ok {x m : Str} {K : PySem.W.Frag} (h : bOwn x m K = true) : PySem.W.findIn K (.ref (He.ga K x)) m = some (some (.ref (He.ma K (He.ga K x) m))) ∧ PySem.W.isFn K (.ref (He.ma K (He.ga K x) m)) = true := by
  obtain ⟨h1, h2⟩ := He.ba h
  exact ⟨He.eqO_ok h1, h2⟩
theorem bRead_ok {x : Str} {K : PySem.W.Frag} (h0 : bRead x K = true) : ClX.CRead K (He.ga K x) (.type "type") := by
  refine ⟨h0, ?_⟩
  have h : PySem.W.readsIn K (He.ga K x) (.type "type") = true := h0
  unfold PySem.W.readsIn at h
  obtain ⟨h, _⟩ := He.ba h
  obtain ⟨h, _⟩ := He.ba h
  obtain ⟨h, h3⟩ := He.ba h
  obtain ⟨_, h2⟩ := He.ba h
  unfold PySem.W.specialIn
  rw [beq_iff_eq.mp h2, Option.bind_some]
  exact beq_iff_eq.mp h3
theorem bStat_ok {x m : Str} {K : PySem.W.Frag} (h : bStat x m K = true) : SMet K (He.ga K x) (.type "type") m (He.ma K (He.ga K x) m) (He5.wf K (He.ga K x) "staticmethod" m) := by
  obtain ⟨h1, h2⟩ := He.ba h
  obtain ⟨h3, h4⟩ := He5.wrapB_ok h1
  exact ⟨h3, h4, h2⟩
/-! ### where defs stand -/
def gl (x : Str) : PySem.W.Frag → Addr := fun K => He.ga K x
def mt (x m : Str) : PySem.W.Frag → Addr := fun K => He.ma K (He.ga K x) m
def st (x m : Str) : PySem.W.Frag → Addr := fun K => He5.wf K (He.ga K x) "staticmethod" m
def dG (x : Str) (s : Stmt) : He5.DefA := ⟨gl x, x, x, defArgs s, defBody s, defScope s, [], []⟩
def dM (x m q : Str) (s : Stmt) (ds : List He.Dv) : He5.DefA := ⟨mt x m, m, q, defArgs s, defBody s, defScope s, ds, []⟩
def dS (x m q : Str) (s : Stmt) : He5.DefA := ⟨st x m, m, q, defArgs s, defBody s, defScope s, [], []⟩
theorem raw0 {P : Program} {w : World} {K : PySem.W.Frag} {mg : Str → Option Value} {base : Heap} {n : Nat} {f : Addr} {fd : FuncData} {ps : List Str} {sp : Sp} (F : FnOk P w K mg base CX0 n f fd ps sp) (hb : Binds K fd ps []) : FnR P w K mg base CX0 n f sp := by
  have h := F.raw hb .nil
  have e : (fun vs H Q E => sp (vs ++ []) H Q E) = sp := by
    funext vs H Q E
    rw [List.append_nil]
  rwa [e] at h
end SP
set_option Elab.async false
set_option linter.all false
set_option maxRecDepth 100000
set_option maxHeartbeats 1000000
namespace SP
open PySem PySem.Spec PyProof.Rows L2
/-! ### the Hook with defs that close over __class__ -/
abbrev FnS : Type := Option (Str × Str × Arguments × FuncBody × Scope × Addr × List Str × Value × Addr)
def fnS (K : PySem.W.Frag) (a : Addr) : FnS := match K.lookup a with
  | some ⟨_, _, .func fd, _⟩ => some (fd.name, fd.qualname, fd.params, fd.body, fd.scope, fd.globals, fd.closure.map (·.1), fd.defaults, fd.builtins)
  | _ => none
/-- a class's method that says super(): the class's name, its own name, qualified name, words -/
structure DefS where
  cls : Str
  name : Str
  qual : Str
  params : Arguments
  body : List Stmt
  scope : Scope
def DefS.at_ (d : DefS) (K : PySem.W.Frag) : Addr := He.ma K (He.ga K d.cls) d.name
def DefS.val (d : DefS) : FnS := some (d.name, d.qual, d.params, .stmts d.body, d.scope, mainGlobals, [("__class__" : Str)], .none, builtinsNs)
/-- code, cell -/
def DefS.ok (file : Str) (K : PySem.W.Frag) (d : DefS) : Bool := PySem.W.keepIn K (.ref (d.at_ K)) && (match K.lookup (d.at_ K) with
  | some ⟨_, _, .func fd, _⟩ => PySem.W.codeIn K fd.code d.qual && ((match fd.code with
      | .ref c => (match K.lookup c with
        | some ⟨_, _, .fields vs, _⟩ => (match (vs[2]? : Option Value) with
          | some (.str f _) => file == f
          | _ => false)
        | _ => false)
      | _ => false) && (match fd.closure with
      | [(_, cc)] => (match K.lookup cc with
        | some ⟨_, _, .cell (some (.ref D)), _⟩ => decide (D = He.ga K d.cls)
        | _ => false)
      | _ => false))
  | _ => false)
/-- what comes of it -/
theorem DefS.fun_ {file : Str} {K : PySem.W.Frag} {d : DefS} (e : fnS K (d.at_ K) = d.val) (h : d.ok file K = true) :
    PySem.W.keepIn K (.ref (d.at_ K)) = true ∧ ∃ (oc : Value) (od : Option Addr) (osl : Array (Option Value)) (kV doc pm ct : Value) (an : Option Addr) (cc c : Addr), K.lookup (d.at_ K) = some ⟨oc, od, .func (PySem.W.fnX d.name d.qual d.params d.body d.scope [(("__class__" : Str), cc)] .none kV doc pm an (.ref c) ct), osl⟩ ∧
      PySem.W.codeIn K (.ref c) d.qual = true ∧ (∃ (ccl : Value) (cdd : Option Addr) (vs : Array Value) (ccs : Array (Option Value)) (f : Str) (tf : Tok), K.lookup c = some ⟨ccl, cdd, .fields vs, ccs⟩ ∧ vs[2]? = some (.str f tf) ∧ (file == f) = true) ∧
      ∃ (x : Value) (cld : Option Addr) (csl : Array (Option Value)), K.lookup cc = some ⟨x, cld, .cell (some (.ref (He.ga K d.cls))), csl⟩ := by
  obtain ⟨kp, h⟩ := He.ba h
  refine ⟨kp, ?_⟩
  unfold fnS at e
  cases q : K.lookup (d.at_ K) with
  | none => rw [q] at h; cases h
  | some o =>
    obtain ⟨oc, od, dt, osl⟩ := o
    rw [q] at h e
    cases dt with
    | func fd =>
      obtain ⟨n1, n2, n3, n4, n5, n6, n7, n8, n9, n10, n11, n12, n13, n14, n15⟩ := fd
      have e2 : (some (n1, n2, n3, n4, n5, n6, n7.map (·.1), n8, n15) : FnS) = some (d.name, d.qual, d.params, .stmts d.body, d.scope, mainGlobals, [("__class__" : Str)], .none, builtinsNs) := e
      simp only [Option.some.injEq, Prod.mk.injEq] at e2
      obtain ⟨rfl, rfl, rfl, rfl, rfl, rfl, h7, rfl, rfl⟩ := e2
      obtain ⟨k1, h⟩ := He.ba h
      obtain ⟨k2, k3⟩ := He.ba h
      dsimp only at k1 k2 k3
      obtain ⟨cc, rfl⟩ : ∃ cc, n7 = [(("__class__" : Str), cc)] := by
        match n7, h7 with
        | [(x, cc)], h7 =>
          simp at h7
          exact ⟨cc, by rw [h7]⟩
      cases n13 with
      | ref c =>
        refine ⟨oc, od, osl, n9, n10, n11, n14, n12, cc, c, rfl, k1, ?_, ?_⟩
        · dsimp only at k2
          cases qc : K.lookup c with
          | none => rw [qc] at k2; cases k2
          | some o2 =>
            obtain ⟨ccl, cdd, dt2, ccs⟩ := o2
            rw [qc] at k2
            cases dt2 with
            | fields vs =>
              dsimp only at k2
              cases qv : (vs[2]? : Option Value) with
              | none => rw [qv] at k2; cases k2
              | some v =>
                rw [qv] at k2
                cases v with
                | str f tf => exact ⟨ccl, cdd, vs, ccs, f, tf, rfl, qv, k2⟩
                | _ => cases k2
            | _ => cases k2
        · dsimp only at k3
          cases qc : K.lookup cc with
          | none => rw [qc] at k3; cases k3
          | some o2 =>
            obtain ⟨ccl, cdd, dt2, ccs⟩ := o2
            rw [qc] at k3
            cases dt2 with
            | cell v =>
              cases v with
              | none => cases k3
              | some v =>
                cases v with
                | ref D =>
                  have := of_decide_eq_true k3
                  subst this
                  exact ⟨ccl, cdd, ccs, rfl⟩
                | _ => cases k3
            | _ => cases k3
      | _ => cases k2
    | _ => cases h
end SP
set_option Elab.async false
set_option linter.all false
set_option maxRecDepth 100000
set_option maxHeartbeats 1000000
namespace SP
open PySem PySem.Spec PyProof.Rows L2
/-! ### own exceptions in the head -/
def oexRaw (K : PySem.W.Frag) (C : Addr) : Bool := match K.lookup C with
  | some ⟨.type t, _, .cls cd, sl⟩ => decide (t = "type") && (match cd.mro, sl.toList with
    | .ref e :: bm, [_, _, _, _, some (.builtin n), _] => decide (e = C) && (decide (n = "ValueError.__new__") && (!cd.hasDel && (cd.hasDict && HandSPX.refsVE bm)))
    | _, _ => false)
  | _ => false
theorem oexRaw_ok {K : PySem.W.Frag} {C : Addr} (h : oexRaw K C = true) : ∃ nm q N bs bm sn sub ab col dd k0 k1 k2 k3 k5, K.lookup C = some (excClassObj nm q C N bs bm true sn sub ab col dd k0 k1 k2 k3 k5 "ValueError.__new__") ∧ HandSPX.refsVE bm = true := by
  unfold oexRaw at h
  split at h
  · rename_i t dd cd sl ho
    have ht := of_decide_eq_true (He.ba h).1
    subst ht
    split at h
    · rename_i e bm k0 k1 k2 k3 n k5 hm hs
      obtain ⟨_, h⟩ := He.ba h
      obtain ⟨h1, h⟩ := He.ba h
      obtain ⟨h2, h⟩ := He.ba h
      obtain ⟨h3, h⟩ := He.ba h
      obtain ⟨h4, h5⟩ := He.ba h
      have h1 := of_decide_eq_true h1
      have h2 := of_decide_eq_true h2
      subst h1 h2
      obtain ⟨nm, bs, mro, ns, qn, hd, sn, sub, ab, col, del⟩ := cd
      dsimp only at hm h3 h4
      subst hm h4
      have h3 : del = false := by simpa using h3
      subst h3
      obtain ⟨l⟩ := sl
      dsimp only at hs
      subst hs
      exact ⟨nm, qn, ns, bs, bm, sn, sub, ab, col, dd, k0, k1, k2, k3, k5, ho, h5⟩
    · cases h
  · cases h
/-- an own exception x whose __init__ stands in y (y is x, or above it) -/
def bExc (x y : Str) : FaB := fun K => oexRaw K (He.ga K x) && (He.eqO (PySem.W.findIn K (.ref (He.ga K x)) "__setattr__") (some (some (.builtin "object.__setattr__"))) && (decide (PySem.W.subIn K (.ref (He.ga K x)) (.type "BaseException") = some true) &&
  (decide (PySem.W.typeIn K (.ref (He.ga K x)) = some (.type "type")) && (PySem.W.keepIn K (.ref (He.ga K x)) && (decide (PySem.W.mroIn K (He.ga K x) (.ref (He.ga K y)) = some true) && (He.eqO (PySem.W.ks_superIn K (He.ga K x) (He.ga K y) "__init__") (some (some (.builtin "ValueError.__init__"))) &&
  decide (PySem.W.subIn K (.ref (He.ga K x)) (.type "ValueError") = some true)))))))
theorem bExc_ok {x y : Str} {K : PySem.W.Frag} (h : bExc x y K = true) : SupC K (He.ga K x) (He.ga K y) := by
  obtain ⟨h1, h⟩ := He.ba h
  obtain ⟨h2, h⟩ := He.ba h
  obtain ⟨h3, h⟩ := He.ba h
  obtain ⟨h4, h⟩ := He.ba h
  obtain ⟨h5, h⟩ := He.ba h
  obtain ⟨h6, h⟩ := He.ba h
  obtain ⟨h7, h8⟩ := He.ba h
  exact ⟨⟨oexRaw_ok h1, He.eqO_ok h2, of_decide_eq_true h3, of_decide_eq_true h4, h5⟩, of_decide_eq_true h6, He.eqO_ok h7, of_decide_eq_true h8⟩
/-- its fields, isinstance -/
def bExf (x : Str) : FaB := fun K => He.eqO (PySem.W.findIn K (.ref (He.ga K x)) "__getattribute__") (some (some (.builtin "BaseException.__getattribute__"))) && (He.eqO (PySem.W.findIn K (.ref (He.ga K x)) "__getattr__") (some none) && (decide (PySem.W.subIn K (.ref (He.ga K x)) (.type "BaseException") = some true) &&
  (PySem.W.hasDictIn K (He.ga K x) && (He.eqO (PySem.W.findIn K (.ref (He.ga K x)) "__class__") (some (some (.builtin "object.__class__"))) && (He.eqO (PySem.W.specialIn K (.builtin "object.__class__") "__get__") (some (some (.builtin "getset_descriptor.__get__"))) &&
  (decide (PySem.W.takesIn K (.builtin "object.__class__") = some true) && decide (PySem.W.mroIn K (He.ga K x) (.type "object") = some true)))))))
theorem bExf_ok {x : Str} {K : PySem.W.Frag} (h : bExf x K = true) : XfC K (He.ga K x) ∧ ExcC K (He.ga K x) := by
  obtain ⟨h1, h⟩ := He.ba h
  obtain ⟨h2, h⟩ := He.ba h
  obtain ⟨h3, h⟩ := He.ba h
  obtain ⟨h4, h⟩ := He.ba h
  obtain ⟨h5, h⟩ := He.ba h
  obtain ⟨h6, h⟩ := He.ba h
  obtain ⟨h7, h8⟩ := He.ba h
  exact ⟨⟨He.eqO_ok h1, He.eqO_ok h2, of_decide_eq_true h3, h4⟩, He.eqO_ok h1, He.eqO_ok h2, of_decide_eq_true h3, h4, He.eqO_ok h5, He.eqO_ok h6, of_decide_eq_true h7, of_decide_eq_true h8⟩
/-! ### the Hook -/
abbrev AlC : Type := He.AlD × List FnS
def obsC (file : Str) (fa : List FaB) (fn : List He5.DefA) (fs : List DefS) (K : PySem.W.Frag) : AlC := (((fa.all fun f => f K) && ((fn.all fun d => d.ok K) && fs.all fun d => d.ok file K), fn.map fun d => He5.fnA K (d.at_ K)), fs.map fun d => fnS K (d.at_ K))
def valC (fn : List He5.DefA) (fs : List DefS) : AlC := ((true, fn.map He5.DefA.val), fs.map DefS.val)
def SaysC (file : Str) (fa : List FaB) (fn : List He5.DefA) (fs : List DefS) (K : PySem.W.Frag) : Prop := obsC file fa fn fs K = valC fn fs
def obsCG (file : Str) (xs : List Str) (n : Nat) (fa : List FaB) (fn : List He5.DefA) (fs : List DefS) (g : Addr → Option Obj) : AlC := obsC file fa fn fs (He.frG g (asS xs n g))
def hookC (file : Str) (xs : List Str) (n : Nat) (fa : List FaB) (fn : List He5.DefA) (fs : List DefS) : PySem.W.Hook where
  α := AlC
  obs := fun s => obsCG file xs n fa fn fs s.heap.get?
  val := fun _ => valC fn fs
  says := fun _ h => ∃ K : PySem.W.Frag, K.In h ∧ SaysC file fa fn fs K
  of := fun _ _ e => ⟨_, He.frG_in, e⟩
  keeps := fun _ _ _ ⟨K, hK, c⟩ k => ⟨K, PySem.W.Frag.In.keeps hK k, c⟩
theorem obsCG_eq {file : Str} {xs : List Str} {n : Nat} {fa : List FaB} {fn : List He5.DefA} {fs : List DefS} {g : Addr → Option Obj} {s : Shared} (h : ∀ a, g a = s.heap.get? a) : obsCG file xs n fa fn fs g = (hookC file xs n fa fn fs).obs s := by
  cases (funext h : g = s.heap.get?)
  rfl
section
variable {file : Str} {fa : List FaB} {fn : List He5.DefA} {fs : List DefS} {K : PySem.W.Frag}
theorem SaysC.b (c : SaysC file fa fn fs K) : (fa.all fun f => f K) = true ∧ (fn.all fun d => d.ok K) = true ∧ (fs.all fun d => d.ok file K) = true := by
  obtain ⟨h1, h2⟩ := He.ba (show ((fa.all fun f => f K) && ((fn.all fun d => d.ok K) && fs.all fun d => d.ok file K)) = true from congrArg (fun z : AlC => z.1.1) c)
  exact ⟨h1, He.ba h2⟩
theorem SaysC.fact (c : SaysC file fa fn fs K) (i : Nat) {f : FaB} (h : fa[i]? = some f) : f K = true := List.all_eq_true.mp c.b.1 f (List.mem_of_getElem? h)
theorem SaysC.def_ (c : SaysC file fa fn fs K) (i : Nat) {d : He5.DefA} (h : fn[i]? = some d) : ∃ fd, L2.FunD K d.name d.qual d.params d.body d.scope (d.dvs K) (d.kws K) (d.at_ K) fd := by
  have e : fn.map (fun d => He5.fnA K (d.at_ K)) = fn.map He5.DefA.val := congrArg (fun z : AlC => z.1.2) c
  have e2 := congrArg (fun l => l[i]?) e
  rw [List.getElem?_map, List.getElem?_map, h] at e2
  exact He5.DefA.funD (Option.some.inj e2) (List.all_eq_true.mp c.b.2.1 d (List.mem_of_getElem? h))
theorem SaysC.sup (c : SaysC file fa fn fs K) (i : Nat) {d : DefS} (h : fs[i]? = some d) : fnS K (d.at_ K) = d.val ∧ d.ok file K = true := by
  have e : fs.map (fun d => fnS K (d.at_ K)) = fs.map DefS.val := congrArg (fun z : AlC => z.2) c
  have e2 := congrArg (fun l => l[i]?) e
  rw [List.getElem?_map, List.getElem?_map, h] at e2
  exact ⟨Option.some.inj e2, List.all_eq_true.mp c.b.2.2 d (List.mem_of_getElem? h)⟩
end
end SP
set_option Elab.async false
set_option linter.all false
set_option maxRecDepth 100000
set_option maxHeartbeats 1000000
namespace MP
open PySem PySem.Spec PyProof.Rows L2 SP
open PySem.W (Frag)
/-! ### what is seen of the written part -/
abbrev FaL := List (Str × (Frag → Addr))
def faOf (l : FaL) (K : Frag) (q : Str) : Addr := match l.lookup q with
  | some a => a K
  | none => 0
/-- defs with lambdas (their entries bear an @): code, table, the lambda's name -/
def csAt (K : Frag) (f : Addr) : Option (Addr × Addr × Str) := match K.lookup f with
  | some ⟨_, _, .func fd, _⟩ => match fd.code with
    | .ref c => some (c, He.tabOf K c, fd.qualname ++ ".<locals>." ++ "<lambda>")
    | _ => none
  | _ => none
def csOf (l : FaL) (K : Frag) : List (Addr × Addr × Str) := l.filterMap fun p => if p.1.cps[0]? = some 64 then csAt K (p.2 K) else none
def gcOf (l : FaL) (K : Frag) (e : Gx) : Gc := ⟨K, He.ga K, faOf l K, csOf l K, e⟩
def clsB (K : Frag) (C : Addr) : Bool := PySem.W.plainGet K C Str.empty && (PySem.W.hasDictIn K C && (PySem.W.plainOver K C && He.eqO (PySem.W.findIn K (.ref C) "__setattr__") (some (some (.builtin "object.__setattr__")))))
theorem clsB_ok {K : Frag} {C : Addr} (h : clsB K C = true) : Cls K C := by
  obtain ⟨h1, h⟩ := He.ba h
  obtain ⟨h2, h⟩ := He.ba h
  obtain ⟨h3, h4⟩ := He.ba h
  exact ⟨h1, h2, h3, He.eqO_ok h4⟩
def recB (K : Frag) (p g : Addr) (t : String) : Bool := match PySem.W.recIn K p t with
  | some (.ref h :: _) => decide (h = g)
  | _ => false
theorem recB_ok {K : Frag} {p g : Addr} {t : String} (h : recB K p g t = true) : ∃ rest, PySem.W.recIn K p t = some (.ref g :: rest) := by
  unfold recB at h
  split at h
  · rename_i e
    exact ⟨_, by rw [e, of_decide_eq_true h]⟩
  · cases h
def kdB (K : Frag) (fa : Str → Addr) (c f : Str) : Kd → Bool
  | .abs => clsB K (He.ga K c) && He.eqO (PySem.W.findIn K (.ref (He.ga K c)) f) (some none)
  | .xabs => xfB K (He.ga K c) && He.eqO (PySem.W.findIn K (.ref (He.ga K c)) f) (some none)
  | .fn q => clsB K (He.ga K c) && (He.eqO (PySem.W.findIn K (.ref (He.ga K c)) f) (some (some (.ref (fa q)))) && (PySem.W.isFn K (.ref (fa q)) && PySem.W.keepIn K (.ref (fa q))))
  | .stat q => PySem.W.readsIn K (He.ga K c) (.type "type") && (He5.wrapB K (He.ga K c) "staticmethod" "staticmethod.__get__" f && (recB K (He.ma K (He.ga K c) f) (fa q) "staticmethod" && PySem.W.keepIn K (.ref (fa q))))
  | .clsm q => PySem.W.readsIn K (He.ga K c) (.type "type") && (He5.wrapB K (He.ga K c) "classmethod" "classmethod.__get__" f && (recB K (He.ma K (He.ga K c) f) (fa q) "classmethod" && PySem.W.fnIn K (fa q)))
  | .prop q => clsB K (He.ga K c) && (He.eqO (PySem.W.findIn K (.ref (He.ga K c)) f) (some (some (.ref (He.ma K (He.ga K c) f)))) && (He.eqO (PySem.W.specialIn K (.ref (He.ma K (He.ga K c) f)) "__get__") (some (some (.builtin "property.__get__"))) &&
      (decide (PySem.W.takesIn K (.ref (He.ma K (He.ga K c) f)) = some true) && recB K (He.ma K (He.ga K c) f) (fa q) "property")))
  | .unk => true
  | .m2 => mro2 K (He.ga K c)
theorem kdB_ok {K : Frag} {l : FaL} {T : Tb} {c f : Str} : ∀ {k : Kd}, kdB K (faOf l K) c f k = true → ∀ {e : Gx}, KdOk K (gcOf l K e) T c f k
  | .m2, h, _ => h
  | .abs, h, _ => let ⟨h1, h2⟩ := He.ba h; ⟨clsB_ok h1, He.eqO_ok h2⟩
  | .xabs, h, _ => let ⟨h1, h2⟩ := He.ba h; ⟨xfB_ok h1, He.eqO_ok h2⟩
  | .fn q, h, _ => by
    obtain ⟨h1, h⟩ := He.ba h
    obtain ⟨h2, h⟩ := He.ba h
    obtain ⟨h3, h4⟩ := He.ba h
    exact ⟨clsB_ok h1, He.eqO_ok h2, h3, h4⟩
  | .stat q, h, _ => by
    obtain ⟨h1, h⟩ := He.ba h
    obtain ⟨h2, h⟩ := He.ba h
    obtain ⟨h3, h4⟩ := He.ba h
    exact ⟨bRead_ok (x := c) h1, _, (He5.wrapB_ok h2).1, recB_ok h3, h4⟩
  | .clsm q, h, _ => by
    obtain ⟨h1, h⟩ := He.ba h
    obtain ⟨h2, h⟩ := He.ba h
    obtain ⟨h3, h4⟩ := He.ba h
    exact ⟨bRead_ok (x := c) h1, _, (He5.wrapB_ok h2).1, recB_ok h3, h4⟩
  | .prop q, h, _ => by
    obtain ⟨h1, h⟩ := He.ba h
    obtain ⟨h2, h⟩ := He.ba h
    obtain ⟨h3, h⟩ := He.ba h
    obtain ⟨h4, h5⟩ := He.ba h
    exact ⟨clsB_ok h1, _, He.eqO_ok h2, He.eqO_ok h3, of_decide_eq_true h4, recB_ok h5⟩
  | .unk, _, _ => trivial
def gkB (K : Frag) (x : Str) : GK → Bool
  | .fn => (He.Fa.glo x).ok K && PySem.W.keepIn K (.ref (He.ga K x))
  | .cls => (He.Fa.glo x).ok K && (PySem.W.keepIn K (.ref (He.ga K x)) && PySem.W.makesIn K (He.ga K x))
  | .xc => (He.Fa.glo x).ok K
  | .str z => (He.Fa.str x z).ok K
  | .int i => (He.Fa.int x i).ok K
  | .free => (He.Fa.free x).ok K
theorem gkB_ok {K : Frag} {l : FaL} {h : Heap} {mg : Str → Option Value} {x : Str} (X : K.In h) (G : h.Ns mainGlobals mg) : ∀ {g : GK}, gkB K x g = true → ∀ {e : Gx}, GkOk K mg (gcOf l K e) x g
  | .fn, h, _ => let ⟨h1, h2⟩ := He.ba h; ⟨He.glo_ok X G h1, h2⟩
  | .cls, h, _ => let ⟨h1, h2⟩ := He.ba h; let ⟨h3, h4⟩ := He.ba h2; ⟨He.glo_ok X G h1, h3, h4⟩
  | .xc, h, _ => He.glo_ok X G h
  | .str z, h, _ => He.str_ok X G h
  | .int i, h, _ => He.int_ok X G h
  | .free, h, _ => He.free_ok X G h
def insB (K : Frag) (C : Addr) : Bool := clsB K C && (He.eqO (PySem.W.findIn K (.ref C) "__class__") (some (some (.builtin "object.__class__"))) && (He.eqO (PySem.W.specialIn K (.builtin "object.__class__") "__get__") (some (some (.builtin "getset_descriptor.__get__"))) &&
  (decide (PySem.W.takesIn K (.builtin "object.__class__") = some true) && (decide (PySem.W.mroIn K C (.type "object") = some true) && (PySem.W.selfFirst K C && (biT.all (fun t => decide (PySem.W.mroIn K C (.type t) = some false)) &&
  (He.eqO (PySem.W.findIn K (.ref C) "__ne__") (some (some (.builtin "object.__ne__"))) && He.eqO (PySem.W.findIn K (.ref C) "__format__") (some (some (.builtin "object.__format__"))))))))))
theorem insB_ok {K : Frag} {C : Addr} (h : insB K C = true) : InstOk K C := by
  obtain ⟨h1, h⟩ := He.ba h
  obtain ⟨h2, h⟩ := He.ba h
  obtain ⟨h3, h⟩ := He.ba h
  obtain ⟨h4, h⟩ := He.ba h
  obtain ⟨h5, h⟩ := He.ba h
  obtain ⟨h6, h⟩ := He.ba h
  obtain ⟨h7, h⟩ := He.ba h
  obtain ⟨h8, h9⟩ := He.ba h
  exact ⟨clsB_ok h1, He.eqO_ok h2, He.eqO_ok h3, of_decide_eq_true h4, of_decide_eq_true h5, h6, fun t ht => of_decide_eq_true (List.all_eq_true.mp h7 t ht), He.eqO_ok h8, He.eqO_ok h9⟩
/-- isinstance and sub classes -/
def Lists.kitB (l : Lists) (K : Frag) : Bool := l.mroL.all (fun p => l.testL.all (fun d => decide (PySem.W.kitOne K (.ref (He.ga K p.1)) (.ref (He.ga K d)) = some (p.2.contains d))) && l.testB.all (fun t => (decide (PySem.W.kitOne K (.ref (He.ga K p.1)) (.type t) = some false) && !(l.xclL.contains p.1 && t == "ValueError")) || (l.xclL.contains p.1 && (!(t == "ValueError") || decide (PySem.W.kitOne K (.ref (He.ga K p.1)) (.type t) = some true))))) &&
  l.testL.all (fun d => biT.all (fun t => decide (PySem.W.kitOne K (.type t) (.ref (He.ga K d)) = some false)))
def Lists.subB (l : Lists) (K : Frag) : Bool := l.instL.all fun c => l.instL.all fun d => match isSub l.mroL c d with
  | some false => decide (PySem.W.mroIn K (He.ga K c) (.ref (He.ga K d)) = some false)
  | _ => true
def Lists.exmB (l : Lists) (K : Frag) : Bool := l.xclL.all fun c => l.xclL.all fun d => match isSub l.mroL c d with
  | some true => decide (PySem.W.exmOne K (.ref (He.ga K c)) (.ref (He.ga K d)) = some true)
  | _ => true
def Lists.okB (l : Lists) (fa : FaL) (K : Frag) : Bool := l.gloL.all (fun p => gkB K p.1 p.2) && (l.kindL.all (fun p => kdB K (faOf fa K) p.1.1 p.1.2 p.2) && (l.instL.all (fun c => insB K (He.ga K c)) && (l.xclL.all (fun c => bExf c K) && (l.kitB K && (l.subB K && l.exmB K)))))
theorem lookup_mem {α β : Type} [BEq α] [LawfulBEq α] {l : List (α × β)} {a : α} {b : β} (h : l.lookup a = some b) : (a, b) ∈ l := by
  induction l with
  | nil => cases h
  | cons p l ih =>
    obtain ⟨x, y⟩ := p
    rw [List.lookup_cons] at h
    split at h
    · rename_i e
      cases h
      rw [eq_of_beq e]
      exact List.mem_cons_self
    · exact List.mem_cons_of_mem _ (ih h)
end MP
set_option Elab.async false
set_option linter.all false
set_option maxRecDepth 100000
set_option maxHeartbeats 1000000
namespace MP
open PySem PySem.Spec PyProof.Rows L2 SP
open PySem.W (Frag)
/-! ### what stands of a table whatever runs -/
structure StOk (P : Program) (w : World) (G : Gc) (mg : Str → Option Value) (base : Heap) (T : Tb) : Prop where
  kd : ∀ c f, KdOk G.K G T c f (T.kind c f)
  glo : ∀ x g, T.glo x = some g → GkOk G.K mg G x g
  fg : ∀ x, T.glo x = some .fn → G.fa x = G.ga x
  ins : ∀ c, T.inst c = true → InstOk G.K (G.ga c)
  exo : ∀ c, T.xcl c = true → ExcC G.K (G.ga c)
  kit : ∀ a b r, T.kit a b = some r → PySem.W.kitOne G.K (a.val G) (b.val G) = some r
  xf : ∀ c fl, T.xfl c = some fl → ExF P w G.K mg base (G.ga c) c fl
  exm : ∀ c x, T.exm c x = true → PySem.W.exmOne G.K (.ref (G.ga c)) (.ref (G.ga x)) = some true
  nsub : ∀ c c', T.nsub c c' = true → PySem.W.mroIn G.K (G.ga c) (.ref (G.ga c')) = some false
  tb : ∀ p ∈ G.cs, LamX.TabB base mg p.1 p.2.1
  tu : ∀ p ∈ G.tabs, ∀ p' ∈ G.tabs, p'.1 = p.1 → p'.2 = p.2
theorem contains_mem {l : List Str} {x : Str} (h : l.contains x = true) : x ∈ l := by simpa using h
theorem isSub_at {mroL : List (Str × List Str)} {c d : Str} {b : Bool} (h : isSub mroL c d = some b) : ∃ ms, (c, ms) ∈ mroL ∧ ms.contains d = b := by
  unfold isSub at h
  cases q : mroL.lookup c with
  | none => rw [q] at h; cases h
  | some ms => rw [q] at h; exact ⟨ms, lookup_mem q, Option.some.inj h⟩
theorem bor {a b : Bool} (h : (a || b) = true) : a = true ∨ b = true := by simpa using h
section
variable {P : Program} {w : World} {K : Frag} {h : Heap} {mg : Str → Option Value} {base : Heap} {l : Lists} {fa : FaL} {run : Str → List D → MM D}
theorem kit_ok (c : l.kitB K = true) : ∀ a b r, (l.sta run).kit a b = some r → ∀ {e : Gx}, PySem.W.kitOne K (a.val (gcOf fa K e)) (b.val (gcOf fa K e)) = some r := by
  obtain ⟨c1, c2⟩ := He.ba c
  have one : ∀ c d r, l.testL.contains d = true → isSub l.mroL c d = some r → PySem.W.kitOne K (.ref (He.ga K c)) (.ref (He.ga K d)) = some r := fun c d r hd hs => by
    obtain ⟨ms, hm, e⟩ := isSub_at hs
    have z := (He.ba (List.all_eq_true.mp c1 _ hm)).1
    have z := of_decide_eq_true (List.all_eq_true.mp z d (contains_mem hd))
    rw [← e]
    exact z
  intro a b r e _
  replace e : kitOf l.mroL l.xclL l.testL l.testB a b = some r := e
  unfold kitOf at e
  split at e
  · split at e
    · rename_i hd; exact one _ _ _ hd e
    · cases e
  · split at e
    · rename_i hd; exact one _ _ _ hd e
    · cases e
  · split at e
    · rename_i t d hd
      cases e
      obtain ⟨h1, h2⟩ := He.ba hd
      exact of_decide_eq_true (List.all_eq_true.mp (List.all_eq_true.mp c2 d (contains_mem h1)) t (by simpa using h2))
    · cases e
  · split at e
    · rename_i c t hd
      cases e
      obtain ⟨h1, h2⟩ := He.ba hd
      obtain ⟨h2, h3⟩ := He.ba h2
      obtain ⟨h3, h4⟩ := He.ba h3
      obtain ⟨ms, q⟩ := Option.isSome_iff_exists.mp h2
      have z := (He.ba (List.all_eq_true.mp c1 _ (lookup_mem q))).2
      rcases bor (List.all_eq_true.mp z t (by simpa using h1)) with z | z
      · obtain ⟨_, z⟩ := He.ba z
        rw [h3, h4] at z
        cases z
      · obtain ⟨_, z⟩ := He.ba z
        rcases bor z with z | z
        · rw [h4] at z
          cases z
        · exact of_decide_eq_true z
    · cases e
  · split at e
    · rename_i c t hd
      cases e
      obtain ⟨h1, h2⟩ := He.ba hd
      obtain ⟨h2, h3⟩ := He.ba h2
      obtain ⟨ms, q⟩ := Option.isSome_iff_exists.mp h2
      have z := (He.ba (List.all_eq_true.mp c1 _ (lookup_mem q))).2
      rcases bor (List.all_eq_true.mp z t (by simpa using h1)) with z | z
      · exact of_decide_eq_true (He.ba z).1
      · have z : l.xclL.contains c = true := (He.ba z).1
        rw [z] at h3
        cases h3
    · cases e
  · cases e
theorem stok (X : K.In h) (Gn : h.Ns mainGlobals mg) (c : l.okB fa K = true) (hfg : ∀ x, l.gloL.lookup x = some .fn → faOf fa K x = He.ga K x) (hxf : ∀ c fl, l.xflL.lookup c = some fl → ExF P w K mg base (He.ga K c) c fl) (htb : ∀ p ∈ csOf fa K, LamX.TabB base mg p.1 p.2.1) (htu : ∀ p ∈ (csOf fa K).map fun p => (p.2.1, p.2.2), ∀ p' ∈ (csOf fa K).map fun p => (p.2.1, p.2.2), p'.1 = p.1 → p'.2 = p.2) (e : Gx) : StOk P w (gcOf fa K e) mg base (l.sta run) := by
  obtain ⟨c1, c⟩ := He.ba c
  obtain ⟨c2, c⟩ := He.ba c
  obtain ⟨c3, c⟩ := He.ba c
  obtain ⟨c4, c⟩ := He.ba c
  obtain ⟨c5, c⟩ := He.ba c
  obtain ⟨c6, c7⟩ := He.ba c
  refine ⟨fun c f => ?_, fun x g e => gkB_ok X Gn (List.all_eq_true.mp c1 _ (lookup_mem e)), hfg, fun c e => insB_ok (List.all_eq_true.mp c3 c (contains_mem e)), fun c e => (bExf_ok (List.all_eq_true.mp c4 c (contains_mem e))).2, fun a b r h => kit_ok c5 a b r h, hxf, fun c x e => ?_, fun c d e => ?_, htb, htu⟩
  · show KdOk K (gcOf fa K e) _ c f ((l.kindL.lookup (c, f)).getD .unk)
    cases q : l.kindL.lookup (c, f) with
    | none => trivial
    | some k => exact kdB_ok (List.all_eq_true.mp c2 _ (lookup_mem q))
  · obtain ⟨e1, e⟩ := He.ba e
    obtain ⟨e2, e3⟩ := He.ba e
    have z := List.all_eq_true.mp (List.all_eq_true.mp c7 c (contains_mem e1)) x (contains_mem e2)
    have e3 : isSub l.mroL c x = some true := eq_of_beq e3
    rw [e3] at z
    exact of_decide_eq_true z
  · obtain ⟨e1, e⟩ := He.ba e
    obtain ⟨e2, e3⟩ := He.ba e
    have z := List.all_eq_true.mp (List.all_eq_true.mp c6 c (contains_mem e1)) d (contains_mem e2)
    have e3 : isSub l.mroL c d = some false := eq_of_beq e3
    rw [e3] at z
    exact of_decide_eq_true z
end
/-! ### all defs at all levels -/
section
variable {P : Program} {w : World} {G : Gc} {mg : Str → Option Value} {base : Heap} {k : Nat} {l : Lists} {dfs : List (Str × Bd)}
/-- one def: from what it calls (level 5 j) to itself (level 5 j + 5), by position and by keywords -/
def DefOk (P : Program) (w : World) (G : Gc) (mg : Str → Option Value) (base : Heap) (l : Lists) (q : Str) (b : Bd) : Prop :=
  ∀ (k : Nat) (run : Str → List D → MM D), (∀ {X : Cx} {Wx : WX}, X.prog = P → X.w = w → X.K = G.K → X.mg = mg → X.base = base → Ct X Wx (k + 4) → En G X Wx k (l.sta run)) →
    FS P w G mg base (k + 5) (G.fa q) (fun ds => mFn b.keep b.np b.nN (b.body (l.sta run)) (fill b.np b.dd ds)) ∧
    ∀ n ks ix, l.kwL.lookup (q, n, ks) = some ix → FK P w G mg base (k + 5) (G.fa q) n ks (fun ds es => mFn b.keep b.np b.nN (b.body (l.sta run)) (fill b.np b.dd (pick ix (ds ++ es))))
theorem all_ok (S : ∀ (e : Gx) run, StOk P w { G with x := e } mg base (l.sta run)) (D : ∀ (e : Gx) q b, dfs.lookup q = some b → DefOk P w { G with x := e } mg base l q b) (hkw : ∀ q n ks ix, l.kwL.lookup (q, n, ks) = some ix → (dfs.lookup q).isSome = true) :
    ∀ j (ex : Gx), (∀ q, FS P w { G with x := ex } mg base (5 * j) (G.fa q) (rnOf l.sta dfs j q)) ∧ ∀ q n ks pl, (l.sta (rnOf l.sta dfs j)).kw q n ks = some pl → FK P w { G with x := ex } mg base (5 * j) (G.fa q) n ks (fun ds es => rnOf l.sta dfs j q (pl ds es))
  | 0, ex => ⟨fun q A fr s H us vs Q E _ _ _ _ ⟨W, sto, ds, _, _, h⟩ => False.elim h, fun q n ks pl _ A fr s H us ws vs zs Q E _ _ _ _ _ _ _ ⟨W, sto, ds, es, _, _, _, h⟩ => False.elim h⟩
  | j + 1, ex => by
    have ih := all_ok S D hkw j
    have en : ∀ {X : Cx} {Wx : WX}, X.prog = P → X.w = w → X.K = G.K → X.mg = mg → X.base = base → Ct X Wx (5 * j + 4) → En { G with x := ex } X Wx (5 * j) (l.sta (rnOf l.sta dfs j)) := by
      intro X Wx hP hw hK hm hb C
      subst hP hw hm hb
      have S := S ex (rnOf l.sta dfs j)
      exact ⟨C.tk, C.rm.mono (by omega), C.gd, C.calm, C.po, hK, fun e => (ih e).1, fun e => (ih e).2, by rw [hK]; exact S.kd, by rw [hK]; exact S.glo, S.fg, by rw [hK]; exact S.ins, by rw [hK]; exact S.exo, by rw [hK]; exact S.kit, by rw [hK]; exact S.xf, by rw [hK]; exact S.exm, by rw [hK]; exact S.nsub, S.tb, S.tu⟩
    refine ⟨fun q => ?_, fun q n ks pl e => ?_⟩
    · cases e : dfs.lookup q with
      | none =>
        have z : rnOf l.sta dfs (j + 1) q = fun _ _ => .bad := by
          funext ds
          show (match dfs.lookup q with | some b => _ | none => _) = _
          rw [e]
        rw [z]
        exact fun A fr s H us vs Q E _ _ _ _ ⟨W, sto, ds, _, _, h⟩ => False.elim h
      | some b =>
        have z : rnOf l.sta dfs (j + 1) q = fun ds => mFn b.keep b.np b.nN (b.body (l.sta (rnOf l.sta dfs j))) (fill b.np b.dd ds) := by
          funext ds
          show (match dfs.lookup q with | some b => _ | none => _) = _
          rw [e]
        rw [z]
        exact (D ex q b e (5 * j) _ en).1
    · have e : (l.kwL.lookup (q, n, ks)).map (fun ix ds es => pick ix (ds ++ es)) = some pl := e
      cases e2 : l.kwL.lookup (q, n, ks) with
      | none => rw [e2] at e; cases e
      | some ix =>
        rw [e2] at e
        cases e
        obtain ⟨b, e3⟩ := Option.isSome_iff_exists.mp (hkw q n ks ix e2)
        have z : ∀ ds es, rnOf l.sta dfs (j + 1) q (pick ix (ds ++ es)) = mFn b.keep b.np b.nN (b.body (l.sta (rnOf l.sta dfs j))) (fill b.np b.dd (pick ix (ds ++ es))) := fun ds es => by
          show (match dfs.lookup q with | some b => _ | none => _) = _
          rw [e3]
        simp only [z]
        exact (D ex q b e3 (5 * j) _ en).2 n ks ix e2
end
end MP
set_option Elab.async false
set_option linter.all false
set_option maxRecDepth 100000
set_option maxHeartbeats 1000000
namespace MP
open PySem PySem.Spec PyProof.Rows L2 SP
open PySem.W (Frag)
/-! ### the law's own call -/
def noLst (K : Frag) : Bool := K.all fun p => match p.2.cls with
  | .type t => !decide (t = "list")
  | _ => true
theorem noLst_at {K : Frag} {a : Addr} {o : Obj} (h : noLst K = true) (e : K.lookup a = some o) (hc : o.cls = .type "list") : False := by
  have z := List.all_eq_true.mp h _ (lookup_mem e)
  have z : (match o.cls with | .type t => !decide (t = "list") | _ => true) = true := z
  rw [hc] at z
  cases z
/-- of a script: nothing is told but it, and empty tables -/
def hScript (ts : List Addr) (a : Addr) (vs : List Value) (ns : List Int) : Hp := fun b => if b = a then some (.frz { cls := .type "list", data := .seq vs.toArray } (.lst (ns.map V.int))) else if b ∈ ts then some (.tbl #[]) else none
section
variable {ts : List Addr} {a b : Addr} {vs : List Value} {ns : List Int}
theorem hs_at : hScript ts a vs ns a = some (.frz { cls := .type "list", data := .seq vs.toArray } (.lst (ns.map V.int))) := if_pos rfl
theorem hs_tab (h : b ≠ a) (ht : b ∈ ts) : hScript ts a vs ns b = some (.tbl #[]) := (if_neg h).trans (if_pos ht)
theorem hs_no (h : b ≠ a) (ht : b ∉ ts) : hScript ts a vs ns b = none := (if_neg h).trans (if_neg ht)
end
theorem rep_ints {G : Gc} {W : Wd} {H : Hp} : ∀ ns : List Int, RepL G W H (ns.map V.int) (ns.map D.int)
  | [] => .nil
  | n :: ns => .cons (.int n) (rep_ints ns)
theorem law_G {P : Program} {w : World} {G : Gc} {mg mb : Str → Option Value} {k : Nat} {f a : Addr} {s : Shared} {vs : List Value} {ns : List Int} {m : List D → MM D} {so : Sto}
    (KX : G.K.In s.heap) (nl : noLst G.K = true) (hns : s.heap.Ns mainGlobals mg) (hb : s.heap.Ns builtinsNs mb) (hbb : ∀ x : Str, x ≠ "__name__" → mb x = bootBuiltins x) (hlim : s.heap.NoLimit) (hg : s.gens = #[])
    (hT : ∀ p ∈ G.cs, s.heap.get? p.2.1 = some { cls := .none, data := .fields #[] }) (nT : ∀ p ∈ G.cs, G.K.lookup p.2.1 = none) (C : ∀ p ∈ G.cs, PySem.W.CodeHd s.heap p.1 p.2.1) (hx : G.x = {})
    (hbm : ∃ (bm : Addr) (ob : Obj), mg "__builtins__" = some (.ref bm) ∧ bm ≠ builtinsNs ∧ s.heap.get? bm = some ob ∧ ob.cls = .type "module" ∧ ob.dict = some builtinsNs ∧ ob.data = .plain)
    (ha : s.heap.get? a = some { cls := .type "list", data := .seq vs.toArray }) (hi : IntsAre vs ns) (hl : ns.length ≤ sizeLine) (hr : Room k callerA)
    (F : ∀ base : Heap, G.K.In base → base.Ns mainGlobals mg → (∀ p ∈ G.cs, LamX.TabB base mg p.1 p.2.1) → FS P w G mg base k f m) (hm : m [.slst (ns.map .int)] [] = .ok (.bl true) so) :
    codeAny (model P w) callerA (.call (.ref f) ⟨[.ref a], []⟩) (fun r s' => r = .ok (.ret (.bool true)) ∧ OldK s.heap s'.heap ∧ s'.os = s.os ∧ AllBare s'.gens) s := by
  obtain ⟨ts, hts⟩ : ∃ ts, ts = G.cs.map fun p => p.2.1 := ⟨_, rfl⟩
  have memT : ∀ p ∈ G.cs, p.2.1 ∈ ts := fun p hp => by rw [hts]; exact List.mem_map.mpr ⟨p, hp, rfl⟩
  have isT : ∀ b ∈ ts, s.heap.get? b = some { cls := .none, data := .fields #[] } := fun b hb => by
    rw [hts] at hb
    obtain ⟨p, hp, e⟩ := List.mem_map.mp hb
    rw [← e]
    exact hT p hp
  have aT : a ∉ ts := fun z => by
    have q := isT a z
    rw [ha] at q
    have z' : Data.seq vs.toArray _ = Data.fields #[] := congrArg Obj.data (Option.some.inj q)
    cases z'
  have tA : ∀ b ∈ ts, b ≠ a := fun b hb z => aT (z ▸ hb)
  have hka : G.K.lookup a = none := by
    cases q : G.K.lookup a with
    | none => rfl
    | some o =>
      have e := KX a o q
      rw [ha] at e
      exact (noLst_at nl q (by rw [← Option.some.inj e])).elim
  have away : ∀ {b : Addr} {o : Obj}, s.heap.get? b = some o → b ≠ a → b ∉ ts → (hidT s.heap (hScript ts a vs ns)).get? b = some o := fun e n n2 => hidT_get e (hs_no n n2)
  have neA : ∀ {b : Addr} {o : Obj}, s.heap.get? b = some o → (∀ vs n, o.data ≠ .seq vs n) → b ≠ a := fun {b o} e d z => by
    rw [z, ha] at e
    exact d vs.toArray _ (by rw [← Option.some.inj e])
  have neT : ∀ {b : Addr} {o : Obj}, s.heap.get? b = some o → o.data ≠ .fields #[] → b ∉ ts := fun {b o} e d z => by
    rw [isT b z] at e
    exact d (by rw [← Option.some.inj e])
  have ns_of : ∀ {b : Addr} {mm : Str → Option Value}, s.heap.Ns b mm → (hidT s.heap (hScript ts a vs ns)).Ns b mm := fun {b mm} ⟨o, es, ep, e, d, r⟩ => ⟨o, es, ep, away e (neA e fun vs n z => by rw [d] at z; cases z) (neT e fun z => by rw [d] at z; cases z), d, r⟩
  have Kb : G.K.In (hidT s.heap (hScript ts a vs ns)) := fun b o e => away (KX b o e) (fun z => by rw [z, hka] at e; cases e) fun z => by
    rw [hts] at z
    obtain ⟨p, hp, q⟩ := List.mem_map.mp z
    rw [← q, nT p hp] at e
    cases e
  have hok : HOk P w (hScript ts a vs ns) s.heap := fun b u z => by
    by_cases q : b = a
    · rw [q, hs_at] at z
      cases z
      rw [q]
      exact ⟨ha, by rw [List.length_map]; exact hl, vs, _, vals_ints hi, ha⟩
    · by_cases qt : b ∈ ts
      · rw [hs_tab q qt] at z
        cases z
        exact isT b qt
      · rw [hs_no q qt] at z
        cases z
  have TB : ∀ p ∈ G.cs, LamX.TabB (hidT s.heap (hScript ts a vs ns)) mg p.1 p.2.1 := fun p hp => by
    have hTp := hT p hp
    refine ⟨?_, ?_, fun z => ?_⟩
    · obtain ⟨o, us, file, tf, flags, tg, inF, text, tt, e1, r1, r2, r3, r4, r5, r6, r7, r8, hne⟩ := C p hp
      refine ⟨o, us, file, tf, flags, tg, inF, text, tt, away e1 (neA e1 fun vs n z => ?_) (neT e1 fun z => ?_), r1, r2, r3, r4, r5, r6, r7, r8, hne⟩
      · rw [r2] at z
        cases z
      · rw [r2] at z
        cases z
        simp at r3
    · obtain ⟨bm, ob, b1, b2, b3, b4, b5, b6⟩ := hbm
      have nG : bm ≠ mainGlobals := fun q => by
        obtain ⟨o, es, ep, e, hd, _⟩ := hns
        rw [q, e] at b3
        cases b3
        rw [hd] at b6
        cases b6
      have nP : bm ≠ p.2.1 := fun q => by
        rw [q, hTp] at b3
        cases b3
        cases b6
      refine ⟨bm, ob, b1, b2, nG, nP, away b3 (neA b3 fun vs n z => ?_) (neT b3 fun z => ?_), b4, b5, b6⟩
      · rw [b6] at z
        cases z
      · rw [b6] at z
        cases z
    · obtain ⟨o, es, ep, e, hd, _⟩ := hns
      rw [z, hTp] at e
      cases e
      cases hd
  obtain ⟨mc, l1, l2⟩ := hlim
  have e0 : Env0 P w G.K mg (hidT s.heap (hScript ts a vs ns)) callerA [] s (hScript ts a vs ns) :=
    ⟨rfl, ⟨Kb, ns_of hns, ⟨mb, ns_of hb, hbb⟩, ⟨mc, ns_of l1, l2⟩⟩, fun b o e => of_hidT e, Nat.le_of_eq (hidT_size _ _), trivial, fun b z => absurd (show b ∈ ([] : List Addr) from z) (by simp), hok, .of_eq hg⟩
  have W0 : WOk G LN ⟨fun b => b = a, [], fun _ => none⟩ (hScript ts a vs ns) [] := by
    refine ⟨rfl, List.nodup_nil, fun b z => ?_, fun k b o z => ?_, fun c v z => ?_, ⟨fun p hp => ?_, fun p hp => ?_, fun p hp => ?_⟩⟩
    · have z : b = a := z
      rw [z]
      exact ⟨_, hs_at, fun _ q => nomatch q⟩
    · simp at z
    · cases z
    · obtain ⟨q, hq, e⟩ := List.mem_map.mp hp
      have := memT q hq
      refine ⟨#[], hs_tab (by rw [← e]; exact tA _ this) (by rw [← e]; exact this), trivial, fun pos cv hc => ?_⟩
      obtain ⟨_, _, _, z⟩ := LamX.TabS.nil (H := fun _ => some (.tbl #[])) (P := 0) (q := "") rfl
      rename_i ps e1 e2
      exact nomatch hc
    · rw [hx] at hp
      exact absurd hp (by simp)
    · rw [hx] at hp
      exact absurd hp (by simp)
  refine codeAny_mono (F _ Kb (ns_of hns) TB callerA [] s (hScript ts a vs ns) [.ref a] [.ref a] (fun v H' => v = .bl true) (fun _ _ _ => False) hr rfl e0 (.cons rfl .nil) ⟨_, [], [.slst (ns.map .int)], W0, .cons (.slst (show a = a from rfl) (.inr ⟨_, hs_at⟩) (rep_ints ns)) .nil, ?_⟩) fun r s' h => ?_
  · rw [hm]
    exact fun v H' W' _ _ r => rep_bl r
  · cases r with
    | error e => exact (cx_false h).elim
    | ok fl =>
      cases fl with
      | next => exact False.elim h
      | brk => exact False.elim h
      | cont => exact False.elim h
      | ret u =>
        obtain ⟨v, H', os, bare, un, ok', rv, q⟩ := h
        have q : v = .bl true := q
        subst q
        obtain rfl : u = Value.bool true := rv
        have key : ∀ b o, b ∉ ts → s.heap.get? b = some o → s'.heap.get? b = some o := fun b o nb e => by
          by_cases z : b = a
          · have z2 := un.frzs b _ _ (by rw [z]; exact hs_at)
            obtain ⟨e2, _⟩ := ok' b _ z2
            rw [z, ha] at e
            cases e
            exact e2
          · exact un.keep b o e (hs_no z nb) (by intro y; exact absurd (show b ∈ ([] : List Addr) from y) (by simp)) (by simp)
        have grown : ∀ p ∈ G.cs, ∃ more : Array Value, s'.heap.get? p.2.1 = some { cls := .none, data := .fields more } := fun p hp => by
          obtain ⟨more, z⟩ := un.tbls p.2.1 #[] (hs_tab (tA _ (memT p hp)) (memT p hp))
          exact ⟨_, ok' p.2.1 _ z⟩
        have inT : ∀ b ∈ ts, ∃ p ∈ G.cs, p.2.1 = b := fun b hb => by
          rw [hts] at hb
          obtain ⟨p, hp, e⟩ := List.mem_map.mp hb
          exact ⟨p, hp, e⟩
        refine ⟨rfl, ⟨fun b o e => ?_, fun b o e => ?_⟩, os, bare⟩
        · by_cases hb : b ∈ ts
          · obtain ⟨p, hp, ep⟩ := inT b hb
            obtain ⟨more, hm⟩ := grown p hp
            rw [← ep] at e ⊢
            rw [hT p hp] at e
            cases e
            exact .inr (.inl ⟨((C p hp).tab (hT p hp)).isCodeTable, rfl, #[], more, rfl, by rw [Array.empty_append]; exact hm⟩)
          · exact .inl (key b o hb e)
        · by_cases hb : b ∈ ts
          · obtain ⟨p, hp, ep⟩ := inT b hb
            obtain ⟨more, hm⟩ := grown p hp
            rw [← ep]
            exact ⟨_, hm⟩
          · exact ⟨o, key b o hb e⟩
/-- what the head tells of the tables -/
def TabsOk (fa : FaL) (K : Frag) (h : Heap) : Prop := ∀ p ∈ csOf fa K, h.get? p.2.1 = some { cls := .none, data := .fields #[] } ∧ K.lookup p.2.1 = none ∧ PySem.W.CodeHd h p.1 p.2.1
/-- from the facts behind the top to the statement's walk -/
theorem walk_G {l : PySem.W.OpenLaw} {n j : Nat} {q : Program} {loose : List Str} {XP : (Str → Option Value) → Heap → Prop} {YP : World → Heap → Prop} {d : DefRec} {L : Lists} {dfs : List (Str × Bd)} {nm : Str}
    (hn : l.most = some n) (hn2 : n ≤ sizeLine) (hdf : d.params.defaults = []) (hr : Room (5 * j) callerA) (hnm : d.name = nm)
    (F : ∀ (w : World) (mg : Str → Option Value) (h : Heap), YP w h → h.Ns mainGlobals mg → ∃ (K : Frag) (fa : FaL), K.In h ∧ noLst K = true ∧ mg nm = some (.ref (faOf fa K nm)) ∧ TabsOk fa K h ∧
      ∀ base : Heap, K.In base → base.Ns mainGlobals mg → (∀ p ∈ csOf fa K, LamX.TabB base mg p.1 p.2.1) → ∀ q, FS l.prog w (gcOf fa K {}) mg base (5 * j) (faOf fa K q) (rnOf L.sta dfs j q))
    (hm : ∀ ns : List Int, ns.length ≤ n → (∀ z ∈ ns, Builtin.Int.intBits z ≤ 1048576) → ∃ so, rnOf L.sta dfs j nm [.slst (ns.map .int)] [] = .ok (.bl true) so) :
    PySem.W.WalkO q loose XP YP l.row.toRowW d [] (fun f vs => PySem.call f vs) := by
  refine Att.attach_callB hn hdf fun w s₀ s₁ mg mb f o pm cd doc a vs ns Gr Y ho hd hcd hmg hobj hints hlen hbits hg => ?_
  obtain ⟨K, fa, KX, nl, hf, hT, hF⟩ := F w mg _ Y Gr.T.g
  rw [hnm, hf] at hmg
  cases hmg
  obtain ⟨so, e⟩ := hm ns hlen hbits
  exact law_G (G := gcOf fa K {}) KX nl Gr.T.g Gr.T.b Gr.T.builtins Gr.T.nolimit hg (fun p hp => (hT p hp).1) (fun p hp => (hT p hp).2.1) (fun p hp => (hT p hp).2.2) rfl Gr.T.bmain hobj hints (Nat.le_trans hlen hn2) hr (fun base k1 k2 k3 => hF base k1 k2 k3 nm) e
end MP
set_option Elab.async false
set_option linter.all false
set_option maxRecDepth 100000
set_option maxHeartbeats 1000000
namespace MP
open PySem PySem.Spec PyProof.Rows L2 SP
open PySem.W (Frag)
/-! ### a def of the head keeps to its mirror -/
section
variable {P : Program} {w : World} {G : Gc} {mg : Str → Option Value} {base : Heap} {l : Lists} {x qual q : Str} {params : Arguments} {body : List Stmt} {scope : Scope} {dvs : List V} {kws : List (Str × V)} {fd : FuncData} {N ps : List Str} {keep : Bool} {np nN : Nat} {dd : List D} {bd : Tb → SS}
theorem pick_len {α : Type} {ix : List Nat} {xs : List α} (h : ∀ i ∈ ix, i < xs.length) : (pick ix xs).length = ix.length := by
  induction ix with
  | nil => rfl
  | cons i ix ih =>
    have hi := h i List.mem_cons_self
    unfold pick at ih ⊢
    rw [List.filterMap_cons, List.getElem?_eq_getElem hi]
    simp [ih fun j hj => h j (List.mem_cons_of_mem _ hj)]
theorem pick_vals {ix : List Nat} {vs : List V} {us : List Value} (r : Vals vs us) (h : ∀ i ∈ ix, i < us.length) : Vals (pick ix vs) (pick ix us) := by
  induction ix with
  | nil => exact .nil
  | cons i ix ih =>
    have hi := h i List.mem_cons_self
    have hi' : i < vs.length := by rw [r.length]; exact hi
    unfold pick at ih ⊢
    rw [List.filterMap_cons, List.filterMap_cons, List.getElem?_eq_getElem hi, List.getElem?_eq_getElem hi']
    obtain ⟨u, e, ru⟩ := r.get (List.getElem?_eq_getElem hi')
    rw [List.getElem?_eq_getElem hi] at e
    cases e
    exact .cons ru (ih fun j hj => h j (List.mem_cons_of_mem _ hj))
theorem pick_rep {ix : List Nat} {W : Wd} {H : Hp} {vs : List V} {ds : List D} (r : RepL G W H vs ds) (h : ∀ i ∈ ix, i < ds.length) : RepL G W H (pick ix vs) (pick ix ds) := by
  induction ix with
  | nil => exact .nil
  | cons i ix ih =>
    have hi := h i List.mem_cons_self
    have hi' : i < vs.length := by rw [r.len]; exact hi
    unfold pick at ih ⊢
    rw [List.filterMap_cons, List.filterMap_cons, List.getElem?_eq_getElem hi, List.getElem?_eq_getElem hi']
    obtain ⟨v, e, rv⟩ := r.get (List.getElem?_eq_getElem hi)
    rw [List.getElem?_eq_getElem hi'] at e
    cases e
    exact .cons rv (ih fun j hj => h j (List.mem_cons_of_mem _ hj))
theorem fill_full {ds : List D} (h : ds.length = np) : fill np dd ds = ds := by
  unfold fill
  rw [h, Nat.add_sub_cancel_left, List.drop_length, List.append_nil]
/-- how keywords bind, no defaults being asked -/
theorem plan_kw {n : Nat} {ks : List Str} {ix : List Nat} (hix : ∀ i ∈ ix, i < n + ks.length) (hl : ix.length = np) (hb : ∀ (s : Shared) (us ws : List Value), G.K.In s.heap → us.length = n → ws.length = ks.length → BindsTo s fd ⟨us, ks.zip ws⟩ (ps.zip (pick ix (us ++ ws)))) :
    Plan G fd ps n ks (fun ds es => fill np dd (pick ix (ds ++ es))) := by
  refine ⟨fun us ws => pick ix (us ++ ws), fun vs zs => pick ix (vs ++ zs), fun s us ws X l1 l2 => hb s us ws X l1 l2, fun r rz l1 l2 => pick_vals (r.append rz) fun i hi => ?_, fun {W H vs zs ds es} r rz l1 l2 => ?_⟩
  · rw [List.length_append, l1, l2]; exact hix i hi
  · have h : ∀ i ∈ ix, i < (ds ++ es).length := fun i hi => by rw [List.length_append, l1, l2]; exact hix i hi
    rw [fill_full (by rw [pick_len h]; exact hl)]
    exact pick_rep (r.app rz) h
theorem def_okC (F : FunD G.K x qual params body scope dvs kws (G.fa q) fd) (S : FnScope N ps scope) (hnp : ps.length = np) (hnN : N.length = nN) (hN : np ≤ nN) (hd : dd.length ≤ np)
    (hpl : ∀ n, np ≤ n + dd.length → n ≤ np → Plan G fd ps n [] (fun ds _ => ds ++ dd.drop (n + dd.length - np)))
    (hkw : ∀ n ks ix, l.kwL.lookup (q, n, ks) = some ix → Plan G fd ps n ks (fun ds es => fill np dd (pick ix (ds ++ es))))
    (hbody : ∀ (run : Str → List D → MM D) (k : Nat) (cdv : Value), CdOf G.K (G.fa q) qual cdv → ∀ (A : Around) (outer : List Env) (s : Shared) (H : Hp) (E : XK), Room (k + 4) (bx P w G mg base N qual scope (G.fa q) cdv A outer s H E).A → En G (bx P w G mg base N qual scope (G.fa q) cdv A outer s H E) (wOf E) k (l.sta run) → EvSs G (bx P w G mg base N qual scope (G.fa q) cdv A outer s H E) (wOf E) body (bd (l.sta run))) :
    DefOk P w G mg base l q ⟨keep, np, nN, dd, bd⟩ := by
  subst hnp hnN
  intro k run en
  have B : ∀ (cdv : Value), CdOf G.K (G.fa q) qual cdv → ∀ (A : Around) (outer : List Env) (s : Shared) (H : Hp) (E : XK), Ct (bx P w G mg base N qual scope (G.fa q) cdv A outer s H E) (wOf E) (k + 4) → EvSs G (bx P w G mg base N qual scope (G.fa q) cdv A outer s H E) (wOf E) body (bd (l.sta run)) :=
    fun cdv hc A outer s H E C => hbody run k cdv hc A outer s H E C.rm (en rfl rfl rfl rfl rfl C)
  refine ⟨FS_of hd (fun ds st h => mFn_bad h) fun n h1 h2 => ?_, fun n ks ix e => ?_⟩
  · exact fn_G F S hN (hpl n h1 h2) B
  · exact fn_G F S hN (hkw n ks ix e) B
theorem def_ok (F : FunD G.K x qual params body scope dvs kws (G.fa q) fd) (S : FnScope N ps scope) (hnp : ps.length = np) (hnN : N.length = nN) (hN : np ≤ nN) (hd : dd.length ≤ np)
    (hpl : ∀ n, np ≤ n + dd.length → n ≤ np → Plan G fd ps n [] (fun ds _ => ds ++ dd.drop (n + dd.length - np)))
    (hkw : ∀ n ks ix, l.kwL.lookup (q, n, ks) = some ix → Plan G fd ps n ks (fun ds es => fill np dd (pick ix (ds ++ es))))
    (hbody : ∀ (run : Str → List D → MM D) (k : Nat) (cdv : Value) (A : Around) (outer : List Env) (s : Shared) (H : Hp) (E : XK), En G (bx P w G mg base N qual scope (G.fa q) cdv A outer s H E) (wOf E) k (l.sta run) → EvSs G (bx P w G mg base N qual scope (G.fa q) cdv A outer s H E) (wOf E) body (bd (l.sta run))) :
    DefOk P w G mg base l q ⟨keep, np, nN, dd, bd⟩ := def_okC F S hnp hnN hN hd hpl hkw fun run k cdv _ A outer s H E _ N => hbody run k cdv A outer s H E N
def AllP {α : Type} (p : α → Prop) : List α → Prop
  | [] => True
  | a :: r => p a ∧ AllP p r
theorem AllP.app {α : Type} {p : α → Prop} : ∀ {a b : List α}, AllP p a → AllP p b → AllP p (a ++ b)
  | [], _, _, h => h
  | x :: a, b, h1, h2 => ⟨h1.1, AllP.app h1.2 h2⟩
theorem AllP.mem {α : Type} {p : α → Prop} : ∀ {a : List α}, AllP p a → ∀ {x}, x ∈ a → p x
  | y :: a, h, x, hx => by
    rcases List.mem_cons.mp hx with rfl | hx
    · exact h.1
    · exact AllP.mem h.2 hx
/-- no defaults -/
theorem plan0 {n0 : Nat} (hb : Binds G.K fd ps []) (hn : ps.length = n0) (n : Nat) (h1 : n0 ≤ n + ([] : List D).length) (h2 : n ≤ n0) : Plan G fd ps n [] (fun ds _ => ds ++ ([] : List D).drop (n + ([] : List D).length - n0)) := by
  simp only [List.drop_nil]
  exact plan_pos hb (by simp at h1 ⊢; omega) .nil fun _ _ => .nil
end
theorem kw_no {l : Lists} {q : Str} {C : Nat → List Str → List Nat → Prop} (h : l.kwL.all (fun p => !decide (p.1.1 = q)) = true) (n : Nat) (ks : List Str) (ix : List Nat) (e : l.kwL.lookup (q, n, ks) = some ix) : C n ks ix := by
  have z := List.all_eq_true.mp h _ (lookup_mem e)
  simp at z
theorem kw_one {l : Lists} {q : Str} {C : Nat → List Str → List Nat → Prop} {n0 : Nat} {ks0 : List Str} {ix0 : List Nat} (h : l.kwL.all (fun p => !decide (p.1.1 = q) || decide (p = ((q, n0, ks0), ix0))) = true) (hc : C n0 ks0 ix0) (n : Nat) (ks : List Str) (ix : List Nat) (e : l.kwL.lookup (q, n, ks) = some ix) : C n ks ix := by
  have z := List.all_eq_true.mp h _ (lookup_mem e)
  simp at z
  obtain ⟨⟨rfl, rfl⟩, rfl⟩ := z
  exact hc
def fgB (l : Lists) (fa : FaL) : FaB := fun K => l.gloL.all fun p => match p.2 with
  | .fn => decide (faOf fa K p.1 = He.ga K p.1)
  | _ => true
theorem fgB_ok {l : Lists} {fa : FaL} {K : Frag} (h : fgB l fa K = true) (x : Str) (e : l.gloL.lookup x = some .fn) : faOf fa K x = He.ga K x := of_decide_eq_true (List.all_eq_true.mp h _ (lookup_mem e))
def bSt : FaB := fun K => He.eqO (PySem.W.nsIn K PySem.cStatics "thirdparty.any") (some none)
/-- an own exception -/
theorem exF {P : Program} {w : World} {K : Frag} {mg : Str → Option Value} {base : Heap} {C f : Addr} {c : Str} {fl : List Str} {fd : FuncData} {ps : List Str} (oex : OexC K C) (hf : PySem.W.findIn K (.ref C) "__init__" = some (some (.ref f))) (ht : PySem.W.typeIn K (.ref f) = some (.type "function"))
    (F : FnOk P w K mg base CX0 1 f fd ps (spXc C fl)) (hb : Binds K fd ps []) (hm : mg c = some (.ref C)) : ExF P w K mg base C c fl := ⟨oex, ⟨f, fd, ps, hf, ht, F, hb⟩, hm⟩
/-- where defs stand -/
def wr (x : Str) (T : String) (m : Str) : Frag → Addr := fun K => He5.wf K (He.ga K x) T m
def dA (a : Frag → Addr) (x q : Str) (s : Stmt) (ds : List He.Dv) : He5.DefA := ⟨a, x, q, defArgs s, defBody s, defScope s, ds, []⟩
/-- its __init__ stands in it, is a def -/
def bIni (c : Str) : FaB := fun K => He.eqO (PySem.W.findIn K (.ref (He.ga K c)) "__init__") (some (some (.ref (He.ma K (He.ga K c) "__init__")))) && decide (PySem.W.typeIn K (.ref (He.ma K (He.ga K c) "__init__")) = some (.type "function"))
theorem bIni_ok {c : Str} {K : Frag} (h : bIni c K = true) : PySem.W.findIn K (.ref (He.ga K c)) "__init__" = some (some (.ref (He.ma K (He.ga K c) "__init__"))) ∧ PySem.W.typeIn K (.ref (He.ma K (He.ga K c) "__init__")) = some (.type "function") :=
  let ⟨h1, h2⟩ := He.ba h; ⟨He.eqO_ok h1, of_decide_eq_true h2⟩
def bNo (c f : Str) : FaB := fun K => He.eqO (PySem.W.findIn K (.ref (He.ga K c)) f) (some none)
def bClsIn (c : Str) : FaB := fun K => (PySem.W.clsIn K (He.ga K c)).isSome
theorem bClsIn_ok {c : Str} {K : Frag} (h : bClsIn c K = true) : ∃ cd, PySem.W.clsIn K (He.ga K c) = some cd := Option.isSome_iff_exists.mp h
end MP
namespace MP
open PySem PySem.Spec PyProof.Rows L2 SP
theorem kwb {K : PySem.W.Frag} {x qual : Str} {params : Arguments} {body : List Stmt} {scope : Scope} {kws : List (Str × V)} {f : Addr} {fd : FuncData} {s : Shared} {args : Args} {b : List (Str × Value)} (F : FunD K x qual params body scope [] kws f fd)
    (h : ∀ (kV doc pm : Value) (an : Option Addr) (cdv ct : Value), bindArgs (PySem.W.fnOf x qual params body scope .none kV doc pm an cdv ct) args = pure b) : BindsTo s fd args b := by
  obtain ⟨oc, od, dV, kV, doc, pm, an, cdv, ct, osl, rfl, lk, hcd, hD, hK⟩ := F.ex
  rcases hD with ⟨_, rfl⟩ | ⟨e, _⟩
  · exact .of_eq (h kV doc pm an cdv ct)
  · exact absurd rfl e
end MP
set_option Elab.async false
set_option linter.all false
set_option maxRecDepth 100000
set_option maxHeartbeats 1000000
namespace MP
open PySem PySem.Spec PyProof.Rows L2 SP LamX
/-! ### a lambda without parameters, handed to a def that calls it -/
section
variable {X : Cx} {pins : List (Addr × Obj)} {σ : L2.St} {H : Hp} {s : Shared}
/-- a lambda is made; what is known stays known; its object may be known, or not -/
theorem lam_new {W : Wd} {T : List (Addr × Str)} {c P : Addr} {params : Arguments} {body : Expr} {scope : Scope} {pos : Pos} {E : Value → Shared → Prop} {Q : Value → Shared → Prop} (I : Inv X pins σ H s) (TB : TabB X.base X.mg c P) (hcode : X.env.code = .ref c)
    (hm : (P, X.env.qual ++ "<lambda>") ∈ T) (hu : ∀ p ∈ T, p.1 = P → p.2 = X.env.qual ++ "<lambda>") (hT : TabsF T W H) (hdef : defaultsOf params X.env = ([], [])) (hfree : ∀ y ∈ scope.names, y.2 = .free → ∃ c, X.env.cells.lookup y.1 = some c)
    (h : ∀ (f c' : Addr) (pm ctv : Value) (H1 : Hp) (s' : Shared), Inv X pins σ H1 s' → Inv X pins σ (upd H1 f (LamHO f c' (X.env.qual ++ "<lambda>") params body scope (cloFrom X.env.cells scope.names []))) s' → ExtN H H1 → (∀ b, H1 b = none → H b = none) → TabsF T (W.add c') H1 → (H c' = none ∨ W.F c') →
      s'.heap.get? f = some (PySem.W.kla_obj "<lambda>" (X.env.qual ++ "<lambda>") params body scope (cloFrom X.env.cells scope.names []) pm c' ctv) → H1 f = none → f ∉ frs X.stack → H1 c' = some (CodeO c' (X.env.qual ++ "<lambda>")) → Q (.ref f) s') :
    wpAny (model X.prog X.w) X.A (eval (.Lambda params body scope pos) X.env) Q E s := by
  obtain ⟨ps, hP, ht, ha⟩ := hT _ hm
  refine PySem.W.kla_eval hdef ?_
  have bP : s.heap.BuiltinsAt X.mg P := TB.bm.keeps I.bk
  have hP' : s.heap.get? P = some { cls := .none, data := .fields ps } := I.hok P _ hP
  have nofr : ∀ f, s.heap.objs.size ≤ f → f ∉ frs X.stack := fun f hf z => by
    rcases List.mem_cons.mp (I.stkSub _ z) with e | e
    · have h1 := I.lt
      rw [← e] at h1
      exact Nat.lt_irrefl _ (Nat.lt_of_lt_of_le h1 hf)
    · exact I.nofs hf e
  have both : ∀ {H1 : Hp} {s1 : Shared} {t1 : Nat} {c' : Addr} {pm ctv : Value}, Inv X pins σ H1 s1 → Inv X pins σ H1 { s1 with heap := s1.heap.push (PySem.W.kla_obj "<lambda>" (X.env.qual ++ "<lambda>") params body scope (cloFrom X.env.cells scope.names []) pm c' ctv), toks := t1 } ∧
      Inv X pins σ (upd H1 s1.heap.objs.size (LamHO s1.heap.objs.size c' (X.env.qual ++ "<lambda>") params body scope (cloFrom X.env.cells scope.names []))) { s1 with heap := s1.heap.push (PySem.W.kla_obj "<lambda>" (X.env.qual ++ "<lambda>") params body scope (cloFrom X.env.cells scope.names []) pm c' ctv), toks := t1 } := fun {H1 s1 t1 c' pm ctv} J => by
    have eb : (s1.heap.push (PySem.W.kla_obj "<lambda>" (X.env.qual ++ "<lambda>") params body scope (cloFrom X.env.cells scope.names []) pm c' ctv)).get? s1.heap.objs.size = some (PySem.W.kla_obj "<lambda>" (X.env.qual ++ "<lambda>") params body scope (cloFrom X.env.cells scope.names []) pm c' ctv) := Heap.get?_push_size _ rfl
    exact ⟨J.kept fun b o e => Heap.get?_push_of_some _ e, J.laid (t' := t1) (a := s1.heap.objs.size) (o := LamHO _ c' _ params body scope _) (h' := s1.heap.push _) (fun b u q => Heap.get?_push_of_some _ q) (Nat.le_refl _) ⟨⟨pm, ctv, eb⟩, ⟨_, eb⟩, fun h1 h2 ⟨p, q, f⟩ k => ⟨p, q, k _ f⟩⟩⟩
  cases hc : codeAmong pos ps.toList with
  | none =>
    refine PySem.W.kla_makeFunction (mg := X.mg) (c := c) (P := P) (ps := ps) (closure_ok hfree) I.ok.glob (I.mod.glob.keeps I.bk) hcode (TB.code.keeps I.bk) hP' ht hc TB.gP bP fun c' ctv h' tk hx hge hlt hrec htb => ?_
    obtain ⟨c2, oc, vs, t, e2, hoc, hd, hv⟩ := hrec
    cases e2
    have hsz : s.heap.objs.size ≤ h'.objs.size := by omega
    have nC : H c' = none := I.hok.fresh hge
    have I0 := inv_table (t' := s.toks) (more := #[rawInt pos.line, rawInt pos.col, .ref c']) (h' := h') I hP (fun b o hb e => hx b o hb e) htb hge ⟨oc, vs, t, hoc, hd, hv⟩
    obtain ⟨I1, I2⟩ := both (t1 := tk) (c' := c') (pm := (X.mg "__name__").getD .none) (ctv := ctv) I0
    have hE : ExtN H (upd (upd H P (.tbl (ps ++ #[rawInt pos.line, rawInt pos.col, .ref c']))) c' (CodeO c' (X.env.qual ++ "<lambda>"))) := fun b o e n => by
      rw [upd_ne (ne_of_none e nC), upd_ne (fun z => n ps (by rw [z, hP] at e; exact (Option.some.inj e).symm))]
      exact e
    refine h h'.objs.size c' ((X.mg "__name__").getD .none) ctv _ _ I1 I2 hE (fun b hb => ?_) (fun p hp => ?_) (.inl nC) (Heap.get?_push_size _ rfl) ?_ (nofr _ hsz) upd_same
    · by_cases b1 : b = c'
      · rw [b1, upd_same] at hb; cases hb
      · rw [upd_ne b1] at hb
        by_cases b2 : b = P
        · rw [b2, upd_same] at hb; cases hb
        · rwa [upd_ne b2] at hb
    · by_cases hb : p.1 = P
      · rw [hu p hp hb, hb]
        have eL : (ps ++ #[rawInt pos.line, rawInt pos.col, .ref c']).toList = ps.toList ++ [rawInt pos.line, rawInt pos.col, .ref c'] := by simp
        refine ⟨_, by rw [upd_ne (ne_of_none hP nC), upd_same], by rw [eL]; exact PySem.TriplesOk_snoc _ _ _ _ ht, fun p' cv hcv => ?_⟩
        rw [eL] at hcv
        rcases among_app _ ht hcv with z | z
        · obtain ⟨c0, e1, e2, e3⟩ := ha p' cv z
          exact ⟨c0, e1, hE _ _ e2 codeO_ne, .inl e3⟩
        · exact ⟨c', z, upd_same, .inr rfl⟩
      · obtain ⟨ps', a1, a2, a3⟩ := hT p hp
        refine ⟨ps', by rw [upd_ne (ne_of_none a1 nC), upd_ne hb]; exact a1, a2, fun p' cv hcv => ?_⟩
        obtain ⟨c0, e1, e2, e3⟩ := a3 p' cv hcv
        exact ⟨c0, e1, hE _ _ e2 codeO_ne, .inl e3⟩
    · have n1 : h'.objs.size ≠ c' := Nat.ne_of_gt hlt
      have n2 : h'.objs.size ≠ P := Nat.ne_of_gt (Nat.lt_of_lt_of_le (Heap.lt_size hP') hsz)
      rw [upd_ne n1, upd_ne n2]
      exact I.hok.fresh hsz
  | some cv =>
    obtain ⟨c', e, hco, hcF⟩ := ha pos cv hc
    subst e
    refine PySem.W.kla_makeFunctionHit (mg := X.mg) (c := c) (P := P) (ps := ps) (closure_ok hfree) I.ok.glob (I.mod.glob.keeps I.bk) hcode (TB.code.keeps I.bk) hP' ht hc bP fun ctv h' tk hx hsz => ?_
    have I0 : Inv X pins σ H { s with heap := h', toks := s.toks } := I.kept fun b o e => hx b o e
    obtain ⟨I1, I2⟩ := both (t1 := tk) (c' := c') (pm := (X.mg "__name__").getD .none) (ctv := ctv) I0
    refine h h'.objs.size c' ((X.mg "__name__").getD .none) ctv H _ I1 I2 (ExtN.refl H) (fun _ z => z) (fun p hp => ?_) (.inr hcF) (Heap.get?_push_size _ rfl) (I.hok.fresh hsz) (nofr _ hsz) hco
    obtain ⟨ps', a1, a2, a3⟩ := hT p hp
    refine ⟨ps', a1, a2, fun p' cv hcv => ?_⟩
    obtain ⟨c0, e1, e2, e3⟩ := a3 p' cv hcv
    exact ⟨c0, e1, e2, .inl e3⟩
end
/-! ### what is told apart from what else is known -/
section
variable {G G' : Gc} {W : Wd} {H : Hp}
mutual
theorem Rep.gc (e : G'.ga = G.ga) (ef : G'.x.fr = G.x.fr) : ∀ {v : V} {d : D}, Rep G W H v d → Rep G' W H v d
  | _, _, .non => .non
  | _, _, .bl b => .bl b
  | _, _, .int i => .int i
  | _, _, .str x => .str x
  | _, _, .ty n => .ty n
  | _, _, .glo x => by rw [← e]; exact .glo x
  | _, _, .tup f h r => .tup f h (RepL.gc e ef r)
  | _, _, .lst f h r => .lst f h (RepL.gc e ef r)
  | _, _, .slst f h r => .slst f h (RepL.gc e ef r)
  | _, _, .dic f h r => .dic f h (RepK.gc e ef r)
  | _, _, .ins f h r => .ins f (by rw [e]; exact h) (RepF.gc e ef r)
  | _, _, .exc f g h k r => .exc f g (by rw [e]; exact h) k (RepF.gc e ef r)
  | _, _, .exc0 f h => .exc0 f (by rw [e]; exact h)
  | _, _, .mref h => .mref h
  | _, _, .lam e1 e2 f g h k => .lam (ef.trans e1) e2 f g h k
theorem RepL.gc (e : G'.ga = G.ga) (ef : G'.x.fr = G.x.fr) : ∀ {v : List V} {d : List D}, RepL G W H v d → RepL G' W H v d
  | _, _, .nil => .nil
  | _, _, .cons h r => .cons (Rep.gc e ef h) (RepL.gc e ef r)
theorem RepF.gc (e : G'.ga = G.ga) (ef : G'.x.fr = G.x.fr) : ∀ {v : List (Str × V)} {d : List (Str × D)}, RepF G W H v d → RepF G' W H v d
  | _, _, .nil => .nil
  | _, _, .cons h r => .cons (Rep.gc e ef h) (RepF.gc e ef r)
theorem RepK.gc (e : G'.ga = G.ga) (ef : G'.x.fr = G.x.fr) : ∀ {v : List (Key × V)} {d : List (Key × D)}, RepK G W H v d → RepK G' W H v d
  | _, _, .nil => .nil
  | _, _, .cons h r => .cons (Rep.gc e ef h) (RepK.gc e ef r)
end
theorem RepO.gc (e : G'.ga = G.ga) (ef : G'.x.fr = G.x.fr) {a : Addr} {o : MO} (h : RepO G W H a o) : RepO G' W H a o := by
  cases o with
  | lst xs => obtain ⟨h1, vs, h2, h3⟩ := h; exact ⟨h1, vs, h2, h3.gc e ef⟩
  | ins c gs => obtain ⟨h1, dx, fs, h2, h3⟩ := h; exact ⟨h1, dx, fs, by rw [e]; exact h2, h3.gc e ef⟩
  | frz d => obtain ⟨h1, h2⟩ := h; exact ⟨h1, h2.gc e ef⟩
theorem RepX.gc (e : G'.ga = G.ga) (ef : G'.x.fr = G.x.fr) {cls : Value} {dd : Option Addr} {d : D} (h : RepX G W H cls dd d) : RepX G' W H cls dd d := by
  obtain ⟨c, gs, h1, h2, h3⟩ := h
  refine ⟨c, gs, h1, by rw [e]; exact h2, h3.imp id fun ⟨a, fs, q1, q2, q3, q4⟩ => ⟨a, fs, q1, q2, q3, q4.gc e ef⟩⟩
theorem WOk.gc {L : Addr → V → Prop} {st : Sto} (e : G'.ga = G.ga) (ef : G'.x.fr = G.x.fr) (w : WOk G L W H st) (g : Gok G' W H) : WOk G' L W H st :=
  ⟨w.len, w.nd, w.fh, fun k a o h1 h2 => (w.at_ k a o h1 h2).gc e ef, w.ce, g⟩
end
section
variable {G : Gc} {X Y : Cx} {Wx Wy : WX} {k : Nat} {T : Tb}
theorem En.at_ (N : En G X Wx k T) (hP : Y.prog = X.prog) (hw : Y.w = X.w) (hK : Y.K = X.K) (hm : Y.mg = X.mg) (hb : Y.base = X.base) (C : Ct Y Wy (k + 2)) : En G Y Wy k T := by
  refine ⟨C.tk, C.rm, C.gd, C.calm, C.po, hK.trans N.hK, ?_, ?_, ?_, ?_, N.fg, ?_, ?_, ?_, ?_, ?_, ?_, ?_, N.tu⟩
  · rw [hP, hw, hm, hb]; exact N.fsx
  · rw [hP, hw, hm, hb]; exact N.fkx
  · rw [hK]; exact N.kd
  · rw [hK, hm]; exact N.glo
  · rw [hK]; exact N.ins
  · rw [hK]; exact N.exo
  · rw [hK]; exact N.kit
  · rw [hP, hw, hK, hm, hb]; exact N.xf
  · rw [hK]; exact N.exm
  · rw [hK]; exact N.nsub
  · rw [hm, hb]; exact N.tb
/-- a def in which lambdas stand -/
structure LamN (G : Gc) (X : Cx) (k : Nat) : Prop where
  ex : ∃ c P, X.env.code = .ref c ∧ (c, P, X.env.qual ++ "<lambda>") ∈ G.cs
  rm : Room (k + 4) X.A
/-- what was got is called -/
def eAsk (ask : MM D) : EE := fun sl st => if sl.lk = true then ask st else .bad
def AskC (G : Gc) (X : Cx) (k : Nat) (T : Tb) (a : Str) (ask : MM D) : Prop :=
  ∀ (pn : List (Addr × Obj)) (xe : Value → Shared → Prop) (Wx : WX) (p1 p2 : Pos), En G (X.tr pn xe) Wx k T → EvE G (X.tr pn xe) Wx (.Call (.Name a p1) [] [] p2) (eAsk ask)
/-- a def that gets one thing, to call it -/
def HolD (G : Gc) (x a : Str) (body : List Stmt) (scope : Scope) (N : List Str) : Prop := ∃ (params : Arguments) (fd : FuncData), FunD G.K x x params body scope [] [] (G.fa x) fd ∧ Binds G.K fd [a] [] ∧ FnScope N [a] scope
noncomputable def hFn (n : Nat) (body : SS) : MM D := fun st => fin st (body st.length ⟨List.replicate n none, true⟩ st)
noncomputable def eHole (n : Nat) (hb : MM D → SS) (m : EE) : EE := fun sl st => hFn n (hb fun st => m ⟨sl.v, false⟩ st) st
/-- the lambda called, in the def that got it -/
theorem ask_S {W1 : Wd} {H1 : Hp} {s1 : Shared} {pins : List (Addr × Obj)} {σ : L2.St} {sl : Sl} {f c' : Addr} {cdg pm ctv : Value} {params : Arguments} {body : Expr} {scope sg : Scope} {a x : Str} {m : EE} {E : XK} {Ng : List Str} {g : Addr} {e : Gx}
    (he : e.pin = f) (hef : e.fr = G.x.fr) (hco : (c', X.env.qual ++ "<lambda>") ∈ e.co) (han : (W1, H1) ∈ e.an) (I : Inv X pins σ H1 s1) (L : LamS X.env.scope scope) (hf : s1.heap.get? f = some (PySem.W.kla_obj "<lambda>" (X.env.qual ++ "<lambda>") params body scope (cloFrom X.env.cells scope.names []) pm c' ctv)) (hfn : H1 f = none) (hfr : f ∉ frs X.stack)
    (hbind : bindArgs (PySem.W.kla_fn "<lambda>" (X.env.qual ++ "<lambda>") params body scope (cloFrom X.env.cells scope.names []) pm (.ref c') ctv) ⟨[], []⟩ = pure []) (rs : RepS G W1 H1 σ sl)
    (hr : Room (k + 3) (X.A.deeper (envOfC x sg s1.heap.objs.size g cdg))) (hgd : X.A.guards = some []) (N : En G X Wx k T)
    (hL : ∀ (A : Around) (outer : List Env) (s : Shared) (H : Hp) (E : XK), En { G with x := e } (lamCx X A outer s H E scope f c') (wOf E) k T → EvE { G with x := e } (lamCx X A outer s H E scope f c') (wOf E) body m)
    (hN : Ng[0]? = some a) (hv : Vis sg a) (hd : (a == ("__debug__" : Str)) = false := by decide) (hcd : (a == ("__classdict__" : Str)) = false := by decide) :
    AskC { G with x := e } (bx X.prog X.w G X.mg X.base Ng x sg g cdg X.A X.stack s1 H1 E) k T a (fun st => m ⟨sl.v, false⟩ st) := by
  intro pn xe Wz p1 p2 Nz
  refine ⟨fun pinsZ sZ σZ HZ Q IZ ⟨WZ, stZ, slZ, wZ, rsZ, hZ⟩ => ?_⟩
  unfold eAsk at hZ
  by_cases hlk : slZ.lk = true
  · rw [if_pos hlk] at hZ
    have hs : σZ[0]? = some (some (.ref f)) := by
      have := rsZ.lk hlk
      rw [this]
      show some (some (V.ref e.pin)) = _
      rw [he]
    refine wpAny_Call_Name_kw (thn ((pe_var (pos := p1) (i := 0) hN hv hd hcd).run pinsZ sZ σZ HZ (fun v H' => v = .ref f ∧ H' = HZ) IZ ⟨.ref f, hs, rfl, rfl⟩) fun u s2 ⟨v, H', I2, r2, q2⟩ => ?_)
    obtain ⟨ev, eH⟩ := q2
    subst ev
    rw [eH] at I2
    obtain rfl : u = Value.ref f := r2
    have of2 := I2.base.keep f _ hf hfn hfr (fun z => nomatch (show f ∈ ([] : List Addr) from z))
    refine PySem.W.callWith_F0 ⟨_, _, _, _, of2⟩ ?_
    have un : Un (frs X.stack) [] H1 HZ s1.heap s2.heap := I2.base
    obtain ⟨⟨oc, vs, t, hoc, hdc, hvc⟩, _, _⟩ := I2.hok c' _ (wZ.gk.co _ hco)
    have rc : codeAny (model X.prog X.w) (X.A.deeper (envOfC x sg s1.heap.objs.size g cdg)) (.call (.ref f) ⟨[], []⟩) (CR (L2.CX X.prog X.w) (envOfC x sg s1.heap.objs.size g cdg :: X.stack) X.prog X.w HZ s2 Q (fun cls dd H' => Wz cls dd σZ H')) s2 := by
      refine PySem.W.kla_callFunE hr.depth of2 rfl L.co L.gen rfl ⟨c', oc, vs, t, rfl, hoc, hdc, hvc⟩ ?_
      rw [hbind]
      refine wpAny_pure (wpAny_newFunctionEnv (fun y hy => (L.own y hy).2) (fun y hy => absurd hy (by simp)) (fun h₁ hns hsb => ⟨I2.nolimit.fresh _ hsb, ?_⟩) L.kind)
      show codeAny _ _ (.expr body (lamEnv X scope s2.heap.objs.size f c')) _ _
      have kp : ∀ b o, s2.heap.get? b = some o → h₁.get? b = some o := fun b o e => hsb.extBut b o (Nat.ne_of_lt (Heap.lt_size e)) (Heap.get?_push_of_some _ e)
      have J : Inv (lamCx X (X.A.deeper (envOfC x sg s1.heap.objs.size g cdg)) (envOfC x sg s1.heap.objs.size g cdg :: X.stack) s2 HZ (fun cls dd H' => Wz cls dd σZ H') scope f c') [] σ HZ { s2 with heap := h₁, toks := s2.toks + ([] : List (Str × Value)).length } :=
        lam_start2 I L (by rw [N.hK]; exact I2.env0) hr.hd un hns kp
      have C : Ct (lamCx X (X.A.deeper (envOfC x sg s1.heap.objs.size g cdg)) (envOfC x sg s1.heap.objs.size g cdg :: X.stack) s2 HZ (fun cls dd H' => Wz cls dd σZ H') scope f c') (wOf fun cls dd H' => Wz cls dd σZ H') (k + 2) :=
        ⟨takes_of rfl rfl rfl rfl, hr.deeper _, hgd, rfl, passes_of rfl⟩
      have Nl := (N.gx e).at_ (Y := lamCx X (X.A.deeper (envOfC x sg s1.heap.objs.size g cdg)) (envOfC x sg s1.heap.objs.size g cdg :: X.stack) s2 HZ (fun cls dd H' => Wz cls dd σZ H') scope f c') rfl rfl rfl rfl rfl C
      have rsl : RepS { G with x := e } WZ HZ σ ⟨sl.v, false⟩ := ⟨rs.len, fun i d q => by
        obtain ⟨v, h1, h2⟩ := rs.at_ i d q
        exact ⟨v, h1, (Rep.gc (G := G) (G' := { G with x := e }) rfl hef h2).see (wZ.gk.an _ han)⟩, fun z => nomatch z⟩
      refine PySem.W.kla_codeExpr (wpAny_mono ((hL _ _ _ _ _ Nl).run [] _ _ HZ Q J ⟨WZ, stZ, ⟨sl.v, false⟩, wZ.ln lok_false |>.nl, rsl, ?_⟩) (fun v s' hq => ?_) fun e s' hq => hq)
      · replace hZ : post _ _ _ _ _ _ _ _ (m ⟨sl.v, false⟩ stZ) := hZ
        revert hZ
        cases m ⟨sl.v, false⟩ stZ with
        | ok d st => exact fun h v H' W' e w r => h v H' W' e (w.ln lok_false).nl r
        | exc d st => exact fun h c dd H' W' e w r => h c dd H' W' e (w.ln lok_false).nl r
        | bad => exact id
      · obtain ⟨w', H', J', rv, q⟩ := hq
        exact ⟨w', H', J'.os, J'.bare, J'.base, J'.hok, rv, q⟩
    refine wpAny_call (codeAny_mono rc fun r s' hq => ?_)
    cases r with
    | error e => exact Nz.tk _ _ (XE.of_call I2 (fun _ _ _ z => z) hq)
    | ok fl =>
      cases fl with
      | ret u => exact I2.after hq
      | next => exact False.elim hq
      | brk => exact False.elim hq
      | cont => exact False.elim hq
  · rw [if_neg hlk] at hZ
    exact False.elim hZ
/-- the world in which a lambda was made -/
theorem lam_world {L : Addr → V → Prop} {W : Wd} {H H1 : Hp} {sto : Sto} {c' : Addr} {q : Str} (w : WOk G L W H sto) (eN : ExtN H H1) (nN : ∀ b, H1 b = none → H b = none) (T1 : TabsF G.tabs (W.add c') H1) (hc : H c' = none ∨ W.F c') (hco : H1 c' = some (CodeO c' q)) :
    Sees W H (W.add c') H1 ∧ WOk G L (W.add c') H1 sto ∧ ExtE W H (W.add c') H1 := by
  have hF : ∀ b, W.F b → H1 b = H b := fun b z => by
    obtain ⟨o, e, t⟩ := w.fh b z
    rw [e, eN b o e t]
  have se : Sees W H (W.add c') H1 := ⟨fun _ z => .inl z, hF, fun _ _ z => z⟩
  refine ⟨se, ⟨w.len, w.nd, fun b z => ?_, fun j b o h1 h2 => ?_, fun c v z => (w.ce c v z).imp id fun z => ?_, ⟨T1, fun p hp => eN _ _ (w.gk.co p hp) codeO_ne, fun p hp => (w.gk.an p hp).trans se⟩⟩, ⟨fun _ z => .inl z, hF, fun b z => ?_, ⟨[], (List.append_nil _).symm, by simp⟩, nN, fun _ _ z => z, fun b o q _ t => eN b o q t⟩⟩
  · rcases z with z | rfl
    · rw [hF b z]; exact w.fh b z
    · exact ⟨_, hco, codeO_ne⟩
  · have r := w.at_ j b o h1 h2
    obtain ⟨u, q1, q2⟩ := r.some w
    refine r.see se (fun z => ?_) (by rw [q1, eN b u q1 q2])
    rcases z with z | rfl
    · exact z
    · rcases hc with hc | hc
      · rw [hc] at q1; cases q1
      · exact hc
  · obtain ⟨ob, u, q1, q2⟩ := z
    exact ⟨ob, u, eN _ _ q1 (fun _ z => nomatch z), q2⟩
  · rcases z with z | rfl
    · exact .inl z
    · exact hc.elim (fun z => .inr (.inl z)) .inl
/-- x(lambda: body) -/
theorem ev_hole {x a : Str} {bodyg : List Stmt} {sg scope : Scope} {Ng : List Str} {m : EE} {hb : MM D → SS} {params : Arguments} {body : Expr} {p lpos pos : Pos} (N : En G X Wx k T) (M : LamN G X k) (HD : HolD G x a bodyg sg Ng) (hx : T.glo x = some .fn) (hg : Gl X x)
    (hN : Ng[0]? = some a) (hva : Vis sg a) (L : LamS X.env.scope scope) (hdef : defaultsOf params X.env = ([], [])) (hbind : ∀ (q : Str) (cl : List (Str × Addr)) (pm cv ctv : Value), bindArgs (PySem.W.kla_fn "<lambda>" q params body scope cl pm cv ctv) ⟨[], []⟩ = pure [])
    (hB : ∀ (e : Gx) (ask : MM D) (cdv : Value) (A : Around) (outer : List Env) (s : Shared) (H : Hp) (E : XK), En { G with x := e } (bx X.prog X.w G X.mg X.base Ng x sg (G.fa x) cdv A outer s H E) (wOf E) k T →
      AskC { G with x := e } (bx X.prog X.w G X.mg X.base Ng x sg (G.fa x) cdv A outer s H E) k T a ask → EvSs { G with x := e } (bx X.prog X.w G X.mg X.base Ng x sg (G.fa x) cdv A outer s H E) (wOf E) bodyg (hb ask))
    (hL : ∀ (e : Gx) (A : Around) (outer : List Env) (s : Shared) (H : Hp) (E : XK) (f c' : Addr), En { G with x := e } (lamCx X A outer s H E scope f c') (wOf E) k T → EvE { G with x := e } (lamCx X A outer s H E scope f c') (wOf E) body m)
    (hdb : (x == ("__debug__" : Str)) = false := by decide) (hd : (a == ("__debug__" : Str)) = false := by decide) (hcd : (a == ("__classdict__" : Str)) = false := by decide) :
    EvE G X Wx (.Call (.Name x p) [.Lambda params body scope lpos] [] pos) (eHole Ng.length hb m) := by
  refine ⟨fun pins s σ H Q I ⟨W, sto, sl, w, rs, h⟩ => ?_⟩
  obtain ⟨pg, fd, F, hbn, S⟩ := HD
  obtain ⟨oc, od, dV, kV, doc, pm, an, cdv, ct, osl, rfl, lk, hcg, _, _⟩ := F.ex
  obtain ⟨c, P, hcode, hmem⟩ := M.ex
  obtain ⟨hm, hk⟩ := N.glo x _ hx
  have ef : G.fa x = G.ga x := N.fg x hx
  refine wpAny_Call_Name_kw (ld_glob I hg hm ?_ hdb)
  refine PySem.W.callWith_K (h₀ := X.base) I.ok.mod.kin hk ?_ (by rfl) (by rfl)
  show wpAny _ _ (spliced ((false, eval (.Lambda params body scope lpos) X.env) :: backTo pos (starEach [] X.env))) _ _ s
  have hmT : (P, X.env.qual ++ "<lambda>") ∈ G.tabs := List.mem_map.mpr ⟨_, hmem, rfl⟩
  refine Calls.spliced_cons (lam_new I (N.tb _ hmem) hcode hmT (fun p hp e => N.tu _ hmT p hp e) w.gk.tb hdef (L.has I.ok) fun f c' pm' ctv H1 s' I1 _ eN nN T1 hcn hf hfn hfr hco => ?_)
  refine Calls.spliced_nil ⟨I1.kIn, ?_⟩
  obtain ⟨se, w1, ex⟩ := lam_world w eN nN T1 hcn hco
  have g1 := w1.gk
  have h1 : postE G (LX X sl.lk σ) Wx σ (W.add c') H1 Q (hFn Ng.length (hb fun sto => m ⟨sl.v, false⟩ sto) sto) := post.after h ex
  obtain ⟨e0, he⟩ : ∃ e : Gx, e = ⟨G.x.fr, f, (c', X.env.qual ++ "<lambda>") :: G.x.co, (W.add c', H1) :: G.x.an⟩ := ⟨_, rfl⟩
  have g2 : Gok { G with x := e0 } (W.add c') H1 := by
    subst he
    refine ⟨g1.tb, fun p hp => ?_, fun p hp => ?_⟩
    · rcases List.mem_cons.mp hp with rfl | hp
      · exact hco
      · exact g1.co p hp
    · rcases List.mem_cons.mp hp with rfl | hp
      · exact Sees.refl
      · exact g1.an p hp
  have back : ∀ {W' : Wd} {H' : Hp}, Gok { G with x := e0 } W' H' → Gok G W' H' := fun g => by
    subst he
    exact ⟨g.tb, fun p hp => g.co p (List.mem_cons_of_mem _ hp), fun p hp => g.an p (List.mem_cons_of_mem _ hp)⟩
  have w2 : WOk { G with x := e0 } LN (W.add c') H1 sto := WOk.gc (G := G) (G' := { G with x := e0 }) rfl (by rw [he]) (w1.ln lok_false) g2
  have p2 : postF { G with x := e0 } (W.add c') H1 Q (fun cls dd H' => Wx cls dd σ H') (hFn Ng.length (hb fun sto => m ⟨sl.v, false⟩ sto) sto) := by
    revert h1
    cases hFn Ng.length (hb fun sto => m ⟨sl.v, false⟩ sto) sto with
    | ok d sto => exact fun h v H' W' e w r => h v H' W' e (WOk.gc (G := { G with x := e0 }) (G' := G) rfl (by rw [he]) w (back w.gk)).nl (Rep.gc (G := { G with x := e0 }) (G' := G) rfl (by rw [he]) r)
    | exc d sto => exact fun h c dd H' W' e w r => h c dd H' W' e (WOk.gc (G := { G with x := e0 }) (G' := G) rfl (by rw [he]) w (back w.gk)).nl (RepX.gc (G := { G with x := e0 }) (G' := G) rfl (by rw [he]) r)
    | bad => exact id
  have hdep : Room (k + 3 + 1) X.A := M.rm
  have C : ∀ E : XK, Ct (bx X.prog X.w G X.mg X.base Ng x sg (G.fa x) cdv X.A X.stack s' H1 E) (wOf E) (k + 3) := fun E => ct_of (hdep.deeper _) N.gd
  have HA := fun E => ask_S (e := e0) (x := x) (sg := sg) (Ng := Ng) (g := G.fa x) (cdg := cdv) (E := E) (by rw [he]) (by rw [he]) (by rw [he]; exact List.mem_cons_self) (by rw [he]; exact List.mem_cons_self) I1 L hf hfn hfr (hbind _ _ _ _ _) (rs.see se) (hdep.deeper _) N.gd N (fun A outer s H E => hL e0 A outer s H E f c') hN hva hd hcd
  have e1 : Env0 X.prog X.w G.K X.mg X.base X.A X.stack s' H1 := by
    rw [← N.hK]
    exact I1.env0
  have lk' : X.K.lookup (G.ga x) = some ⟨oc, od, .func (PySem.W.fnOf x x pg bodyg sg dV kV doc pm an cdv ct), osl⟩ := by
    rw [N.hK, ← ef]
    exact lk
  have rc : codeAny (model X.prog X.w) X.A (.call (.ref (G.fa x)) ⟨[.ref f], []⟩) (CR (L2.CX X.prog X.w) X.stack X.prog X.w H1 s' Q (fun cls dd H' => Wx cls dd σ H')) s' := by
    have En' := fun E : XK => (N.gx e0).at_ (Y := bx X.prog X.w G X.mg X.base Ng x sg (G.fa x) cdv X.A X.stack s' H1 E) (Wy := wOf E) rfl rfl N.hK.symm rfl rfl ⟨(C E).tk, (C E).rm.mono (by omega), (C E).gd, (C E).calm, (C E).po⟩
    refine run_G (G := { G with x := e0 }) (ps := [a]) (us' := [.ref f]) (vs' := [.ref f]) lk hcg S hdep e1 (hbn s' [.ref f] (by rw [← N.hK]; exact I1.kIn) rfl) (.cons rfl .nil) rfl (hB e0 _ cdv X.A X.stack s' H1 _ (En' _) (HA _)) ⟨sto.length, W.add c', sto, ⟨List.replicate Ng.length none, true⟩, by rw [w2.len]; exact Nat.le_refl _, w2.nl, ⟨?_, fun i d q => ?_, fun _ => ?_⟩, end_S w2 p2⟩
    · have : 0 < Ng.length := (List.getElem?_eq_some_iff.mp hN).1
      show ([V.ref f].map some ++ List.replicate (Ng.length - [V.ref f].length) none).length = (List.replicate Ng.length (none : Option D)).length
      simp
      omega
    · have q : (List.replicate Ng.length (none : Option D))[i]? = some (some d) := q
      rw [List.getElem?_replicate] at q
      split at q <;> simp at q
    · show (L2.start Ng [V.ref f])[0]? = some (some (V.ref e0.pin))
      rw [he]
      rfl
  rw [ef] at rc
  refine wpAny_call (codeAny_mono rc fun r s2 hq => ?_)
  cases r with
  | error e => exact N.tk _ _ (XE.of_call I1 (fun _ _ _ z => z) hq)
  | ok fl =>
    cases fl with
    | ret u => exact I1.after hq
    | next => exact False.elim hq
    | brk => exact False.elim hq
    | cont => exact False.elim hq
end
/-! ### defs in which lambdas stand -/
section
variable {P : Program} {w : World} {G : Gc} {mg : Str → Option Value} {base : Heap} {l : Lists} {x qual q : Str} {params : Arguments} {body : List Stmt} {scope : Scope} {dvs : List V} {kws : List (Str × V)} {fd : FuncData} {N ps : List Str} {keep : Bool} {np nN : Nat} {dd : List D} {bd : Tb → SS}
theorem csAt_of {K : PySem.W.Frag} {f : Addr} {qual : Str} {cdv : Value} (h : CdOf K f qual cdv) : ∃ c P, cdv = .ref c ∧ csAt K f = some (c, P, qual ++ ".<locals>." ++ "<lambda>") := by
  obtain ⟨oc, od, fd, osl, e, rfl, rfl, hc⟩ := h
  obtain ⟨c, e2⟩ := He.codeIn_ref hc
  refine ⟨c, He.tabOf K c, e2, ?_⟩
  unfold csAt
  rw [e]
  dsimp only
  rw [e2]
theorem cs_in {fa : FaL} {K : PySem.W.Frag} {y : Str} {a : PySem.W.Frag → Addr} {p : Addr × Addr × Str} (h : (y, a) ∈ fa) (hy : y.cps[0]? = some 64) (e : csAt K (a K) = some p) : p ∈ csOf fa K :=
  List.mem_filterMap.mpr ⟨_, h, by dsimp only; rw [if_pos hy]; exact e⟩
theorem def_okL (F : FunD G.K x qual params body scope dvs kws (G.fa q) fd) (S : FnScope N ps scope) (hnp : ps.length = np) (hnN : N.length = nN) (hN : np ≤ nN) (hd : dd.length ≤ np)
    (hpl : ∀ n, np ≤ n + dd.length → n ≤ np → Plan G fd ps n [] (fun ds _ => ds ++ dd.drop (n + dd.length - np)))
    (hkw : ∀ n ks ix, l.kwL.lookup (q, n, ks) = some ix → Plan G fd ps n ks (fun ds es => fill np dd (pick ix (ds ++ es))))
    (hin : ∀ p, csAt G.K (G.fa q) = some p → p ∈ G.cs)
    (hbody : ∀ (run : Str → List D → MM D) (k : Nat) (cdv : Value) (A : Around) (outer : List Env) (s : Shared) (H : Hp) (E : XK), En G (bx P w G mg base N qual scope (G.fa q) cdv A outer s H E) (wOf E) k (l.sta run) → LamN G (bx P w G mg base N qual scope (G.fa q) cdv A outer s H E) k → EvSs G (bx P w G mg base N qual scope (G.fa q) cdv A outer s H E) (wOf E) body (bd (l.sta run))) :
    DefOk P w G mg base l q ⟨keep, np, nN, dd, bd⟩ := def_okC F S hnp hnN hN hd hpl hkw fun run k cdv hc A outer s H E hr N => hbody run k cdv A outer s H E N (by
      obtain ⟨c, Pt, e1, e2⟩ := csAt_of hc
      exact ⟨⟨c, Pt, e1, hin _ e2⟩, hr⟩)
end
end MP
set_option Elab.async false
set_option linter.all false
set_option maxRecDepth 100000
set_option maxHeartbeats 1000000
namespace MP
open PySem PySem.Spec PyProof.Rows L2 SP
open PySem.W (Frag)
/-! ### the Hook that tells of tables too -/
def tabsB (fa : FaL) (g : Addr → Option Obj) (K : Frag) : Bool := (csOf fa K).all fun p => (match g p.2.1 with
  | some o => He.emptyTab o
  | none => false) && PySem.W.codeHdIn K p.1 p.2.1
/-- one name for one table -/
def tuB (fa : FaL) : FaB := fun K => ((csOf fa K).map fun p => (p.2.1, p.2.2)).all fun p => ((csOf fa K).map fun p => (p.2.1, p.2.2)).all fun q => !decide (q.1 = p.1) || decide (q.2 = p.2)
theorem tuB_ok {fa : FaL} {K : Frag} (h : tuB fa K = true) : ∀ p ∈ (csOf fa K).map fun p => (p.2.1, p.2.2), ∀ p' ∈ (csOf fa K).map fun p => (p.2.1, p.2.2), p'.1 = p.1 → p'.2 = p.2 := fun p hp q hq e => by
  have z := List.all_eq_true.mp (List.all_eq_true.mp h p hp) q hq
  rcases bor z with z | z
  · simp [e] at z
  · exact of_decide_eq_true z
abbrev AlL : Type := AlC × Bool
def obsLG (file : Str) (xs : List Str) (n : Nat) (fb : List FaB) (fn : List He5.DefA) (fs : List DefS) (fa : FaL) (g : Addr → Option Obj) : AlL := (obsC file fb fn fs (He.frT g (asS xs n g)), tabsB fa g (He.frT g (asS xs n g)))
def hookL (file : Str) (xs : List Str) (n : Nat) (fb : List FaB) (fn : List He5.DefA) (fs : List DefS) (fa : FaL) : PySem.W.Hook where
  α := AlL
  obs := fun s => obsLG file xs n fb fn fs fa s.heap.get?
  val := fun _ => (valC fn fs, true)
  says := fun _ h => ∃ K : Frag, K.In h ∧ SaysC file fb fn fs K ∧ TabsOk fa K h
  of := fun _ s e => by
    obtain ⟨e1, e2⟩ := Prod.mk.inj e
    refine ⟨_, He.frT_in, e1, fun p hp => ?_⟩
    obtain ⟨h1, h2⟩ := He.ba (List.all_eq_true.mp e2 p hp)
    cases q : s.heap.get? p.2.1 with
    | none => rw [q] at h1; cases h1
    | some o =>
      rw [q] at h1
      exact ⟨by rw [He.emptyTab_eq h1], He.frT_none q h1, PySem.W.codeHd_of_K He.frT_in h2⟩
  keeps := fun _ _ _ ⟨K, hK, c, t⟩ k => ⟨K, PySem.W.Frag.In.keeps hK k, c, fun p hp => ⟨k _ _ (t p hp).1, (t p hp).2.1, (t p hp).2.2.keeps k⟩⟩
theorem obsLG_eq {file : Str} {xs : List Str} {n : Nat} {fb : List FaB} {fn : List He5.DefA} {fs : List DefS} {fa : FaL} {g : Addr → Option Obj} {s : Shared} (h : ∀ a, g a = s.heap.get? a) : obsLG file xs n fb fn fs fa g = (hookL file xs n fb fn fs fa).obs s := by
  cases (funext h : g = s.heap.get?)
  rfl
end MP
set_option Elab.async false
set_option linter.all false
set_option maxRecDepth 100000
set_option maxHeartbeats 1000000
namespace MP
open PySem PySem.Spec PyProof.Rows L2 SP
/-! ### C(e, .., k = v, ..) -/
open Classical in
noncomputable def mkIG (c : Str) (f : D → MM D) : MM D := fun st => match f (.mref st.length) (st ++ [.ins c []]) with
  | .ok .non st3 => match st3[st.length]? with
    | some (.ins c' gs) => if c' = c ∧ cleanF st.length gs = true ∧ okCut st st3 then .ok (.ins c gs) (st3.take st.length) else .bad
    | _ => .bad
  | .exc e st3 => if e.clean st.length = true ∧ okCut st st3 then .exc e (st3.take st.length) else .bad
  | _ => .bad
noncomputable def mkIK (T : Tb) (c : Str) (ks : List Str) (ds es : List D) : MM D := fun st => match T.kind c "__init__" with
  | .fn q => match T.kw q (ds.length + 1) ks with
    | some pl => if es.length = ks.length then mkIG c (fun x => T.run q (pl (x :: ds) es)) st else .bad
    | none => .bad
  | _ => .bad
noncomputable def eMakeK (T : Tb) (c : Str) (ks : List Str) (ma mk : EA) : EE := fun sl st => (ma sl st).bind fun ds st => (mk sl st).bind fun es st => mkIK T c ks ds es st
section
variable {G : Gc} {X : Cx} {Wx : WX} {k n : Nat} {T : Tb} {L : Addr → V → Prop} {W : Wd} {H : Hp} {sto : Sto} {σ : L2.St} {pins : List (Addr × Obj)} {s : Shared} {Q : VK} {pos kpos : Pos} {c : Str} {ks : List Str}
open Classical in
theorem make_K {vs zs : List V} {us ws : List Value} {ds es : List D} (N : En G X Wx k T) (M : MkC X G c) (I : Inv X pins σ H s) (r : Vals vs us) (rz : Vals zs ws) (hL : Lok L) (w : WOk G L W H sto) (rl : RepL G W H vs ds) (rlz : RepL G W H zs es) (h : postE G L Wx σ W H Q (mkIK T c ks ds es sto)) :
    wpAny (model X.prog X.w) X.A (call (.ref (G.ga c)) us (ks.zip ws)) (EP X pins σ Q) X.xe s := by
  unfold mkIK at h
  split at h
  · rename_i q hk
    split at h
    · rename_i pl hkw
      split at h
      · rename_i hes
        unfold mkIG at h
        dsimp only at h
        have K := N.kd c "__init__"
        rw [hk] at K
        have hr : Room (k + 1) X.A := N.rm.mono (by omega)
        have nx := I.hok.fresh (Nat.le_succ s.heap.objs.size)
        have nd := I.hok.fresh (Nat.le_refl s.heap.objs.size)
        have I2 := Inv.made (C := G.ga c) I
        obtain ⟨w2, e2⟩ := new_ok (c := c) w nx nd (Nat.ne_of_lt (Nat.lt_succ_self _))
        have rl2 : RepL G (W.push (s.heap.objs.size + 1)) _ (.ref (s.heap.objs.size + 1) :: vs) (.mref sto.length :: ds) := .cons (.mref (push_mref w _)) (rl.see e2.sees)
        refine wpAny_call (make_map (f := G.fa q) I.kIn M.makes K.2.at_ (beq_iff_eq.mp K.2.fn) (codeAny_mono (N.callK (n := ds.length + 1) (Q := fun v H' => v = .non ∧ Q (.ref (s.heap.objs.size + 1)) H') (us := .ref (s.heap.objs.size + 1) :: us) (vs := .ref (s.heap.objs.size + 1) :: vs) hkw (hr.make _ us (ks.zip ws)) (gd_make N.gd) (I2.env0.make _ us (ks.zip ws)) I2 (.cons rfl r) rz (by rw [List.length_cons, ← r.length, rl.len]) (by rw [← rz.length, rlz.len]; exact hes) hL w2 rl2 (rlz.see e2.sees) ?_) fun r s' hq' => ?_))
        · revert h
          cases T.run q (pl (.mref sto.length :: ds) es) (sto ++ [.ins c []]) with
          | bad => exact id
          | exc e st3 =>
            intro h cls dd H' W' e' w' rx
            have h : postE G L Wx σ W H Q (if e.clean sto.length = true ∧ okCut sto st3 then .exc e (st3.take sto.length) else .bad) := h
            split at h
            · rename_i hc
              have ee := e2.trans e'
              refine h cls dd H' _ (cut_ext ee) (cut_ok w ee w' hc.2) (rx.cut ?_)
              rw [w.len]
              exact hc.1
            · exact False.elim h
          | ok d st3 =>
            cases d with
            | non =>
              intro h v H' W' e' w' rv
              have ee := e2.trans e'
              refine ⟨rep_non rv, ?_⟩
              have h : postE G L Wx σ W H Q (match st3[sto.length]? with
                | some (.ins c' gs) => if c' = c ∧ cleanF sto.length gs = true ∧ okCut sto st3 then .ok (.ins c gs) (st3.take sto.length) else .bad
                | _ => .bad) := h
              split at h
              · rename_i c' gs ho
                split at h
                · rename_i hc
                  obtain ⟨rfl, hc1, hc2⟩ := hc
                  have hmu : W'.mu[W.mu.length]? = some (s.heap.objs.size + 1) := e'.sees.mu _ _ (by rw [w.len]; exact push_mref w _)
                  obtain ⟨z1, z2, z3⟩ := made_ok w nx ee hmu w' ho hc1 hc2
                  exact h _ H' _ z1 z2 z3
                · exact False.elim h
              · exact False.elim h
            | _ => exact False.elim
        · cases r with
          | error e => exact hq'
          | ok fl =>
            cases fl with
            | ret u =>
              obtain ⟨v, H', I3, rv, ev, q3⟩ := hq'
              subst ev
              exact ⟨rv, ⟨V.ref (s.heap.objs.size + 1), H', I3, rfl, q3⟩⟩
            | next => exact False.elim hq'
            | brk => exact False.elim hq'
            | cont => exact False.elim hq'
      · exact False.elim h
    · exact False.elim h
  · exact False.elim h
variable {e : Expr} {es : List Expr} {kws : List Keyword} {ma mk : EA} {p : Pos}
theorem ev_makeK (N : En G X Wx k T) (M : MkC X G c) (hg : Gl X c) (ha : EvA G X Wx (e :: es) ma) (hk : EvK G X Wx kws mk) (hall : (backToKw pos (keywordEach kws X.env)).all (·.1.isSome) = true := by rfl) (hks : (backToKw pos (keywordEach kws X.env)).filterMap (·.1) = ks := by rfl)
    (hdb : (c == ("__debug__" : Str)) = false := by decide) (he : starEach (e :: es) X.env = (false, eval e X.env) :: starEach es X.env := by rfl)
    (hpl : ((backTo pos (starEach (e :: es) X.env)).any (·.1) || (backToKw pos (keywordEach kws X.env)).any (·.1.isNone)) = false := by rfl) :
    EvE G X Wx (.Call (.Name c p) (e :: es) kws pos) (eMakeK T c ks ma mk) := by
  refine ⟨fun pins s σ H Q I ⟨W, sto, sl, w, rs, h⟩ => ?_⟩
  refine wpAny_Call_Name_kw (ld_glob I hg M.mg ?_ hdb)
  refine PySem.W.callWith_KW (h₀ := X.base) I.ok.mod.kin M.kp hall (thn (ha.run pos pins s σ H _ I (one w rs h)) fun us s1 ⟨vs, H1, I1, r, W1, st1, d1, e1, w1, rs1, rr, _, h1⟩ => ?_) hpl he
  refine thn (hk.run pos pins s1 σ H1 _ I1 (one w1 rs1 h1)) fun ws s2 ⟨zs, H2, I2, rz, W2, st2, d2, e2, w2, rs2, rr2, _, h2⟩ => ⟨I2.kIn, ?_⟩
  rw [hks]
  exact make_K N M I2 r rz (lok_of rs2) w2 (rr.see e2.sees) rr2 h2
theorem ev_makeK0 (N : En G X Wx k T) (M : MkC X G c) (hg : Gl X c) (hk : EvK G X Wx kws mk) (hall : (backToKw pos (keywordEach kws X.env)).all (·.1.isSome) = true := by rfl) (hks : (backToKw pos (keywordEach kws X.env)).filterMap (·.1) = ks := by rfl)
    (hdb : (c == ("__debug__" : Str)) = false := by decide) (hpl : ((backTo pos (starEach [] X.env)).any (·.1) || (backToKw pos (keywordEach kws X.env)).any (·.1.isNone)) = false := by rfl) :
    EvE G X Wx (.Call (.Name c p) [] kws pos) (eMakeK T c ks aNil mk) := by
  refine ⟨fun pins s σ H Q I ⟨W, sto, sl, w, rs, h⟩ => ?_⟩
  refine wpAny_Call_Name_kw (ld_glob I hg M.mg ?_ hdb)
  refine PySem.W.callWith_KW0 (h₀ := X.base) I.ok.mod.kin M.kp hall ?_ hpl
  refine thn (hk.run pos pins s σ H _ I (one w rs h)) fun ws s2 ⟨zs, H2, I2, rz, W2, st2, d2, e2, w2, rs2, rr2, _, h2⟩ => ⟨I2.kIn, ?_⟩
  rw [hks]
  exact make_K (us := []) N M I2 .nil rz (lok_of rs2) w2 .nil rr2 h2
theorem ev_makeKN (N : En G X Wx k T) (h : T.glo c = some .cls) (hg : Gl X c) (ha : EvA G X Wx (e :: es) ma) (hk : EvK G X Wx kws mk) (hall : (backToKw pos (keywordEach kws X.env)).all (·.1.isSome) = true := by rfl) (hks : (backToKw pos (keywordEach kws X.env)).filterMap (·.1) = ks := by rfl)
    (hdb : (c == ("__debug__" : Str)) = false := by decide) (he : starEach (e :: es) X.env = (false, eval e X.env) :: starEach es X.env := by rfl)
    (hpl : ((backTo pos (starEach (e :: es) X.env)).any (·.1) || (backToKw pos (keywordEach kws X.env)).any (·.1.isNone)) = false := by rfl) :
    EvE G X Wx (.Call (.Name c p) (e :: es) kws pos) (eMakeK T c ks ma mk) := ev_makeK N ⟨(N.glo c _ h).2.2, (N.glo c _ h).2.1, (N.glo c _ h).1⟩ hg ha hk hall hks hdb he hpl
theorem ev_makeK0N (N : En G X Wx k T) (h : T.glo c = some .cls) (hg : Gl X c) (hk : EvK G X Wx kws mk) (hall : (backToKw pos (keywordEach kws X.env)).all (·.1.isSome) = true := by rfl) (hks : (backToKw pos (keywordEach kws X.env)).filterMap (·.1) = ks := by rfl)
    (hdb : (c == ("__debug__" : Str)) = false := by decide) (hpl : ((backTo pos (starEach [] X.env)).any (·.1) || (backToKw pos (keywordEach kws X.env)).any (·.1.isNone)) = false := by rfl) :
    EvE G X Wx (.Call (.Name c p) [] kws pos) (eMakeK T c ks aNil mk) := ev_makeK0 N ⟨(N.glo c _ h).2.2, (N.glo c _ h).2.1, (N.glo c _ h).1⟩ hg hk hall hks hdb hpl
end
/-! ### how keywords come to parameters, where there are defaults too -/
theorem kwbD {K : PySem.W.Frag} {x qual : Str} {params : Arguments} {body : List Stmt} {scope : Scope} {dvs : List V} {kws : List (Str × V)} {f : Addr} {fd : FuncData} {s : Shared} {args : Args} {b : List (Str × Value)} (F : FunD K x qual params body scope dvs kws f fd) (hd : dvs ≠ []) (X : K.In s.heap)
    (h : ∀ (T : Addr) (kV doc pm : Value) (an : Option Addr) (cdv ct : Value) (its : List Value), its.length = dvs.length → ∃ k, bindArgs (PySem.W.fnOf x qual params body scope (.ref T) kV doc pm an cdv ct) args = seqItems? (.ref T) >>= k ∧ k (some its.toArray) = pure b) : BindsTo s fd args b := by
  obtain ⟨oc, od, dV, kV, doc, pm, an, cdv, ct, osl, rfl, lk, hcd, hD, hK⟩ := F.ex
  rcases hD with ⟨e, _⟩ | ⟨_, T, o, its, m, rfl, lT, oT, rT⟩
  · exact absurd e hd
  · obtain ⟨k, e1, e2⟩ := h T kV doc pm an cdv ct its rT.length.symm
    refine BindsTo.of_looks fun M => ?_
    rw [e1]
    exact looks_items X lT oT (.of_pure e2)
theorem kw_list {l : Lists} {q : Str} {C : Nat → List Str → List Nat → Prop} (mine : List ((Str × Nat × List Str) × List Nat)) (h : l.kwL.all (fun p => !decide (p.1.1 = q) || decide (p ∈ mine)) = true) (hc : AllP (fun p => C p.1.2.1 p.1.2.2 p.2) mine) (n : Nat) (ks : List Str) (ix : List Nat) (e : l.kwL.lookup (q, n, ks) = some ix) : C n ks ix := by
  have z := List.all_eq_true.mp h _ (lookup_mem e)
  rcases bor z with z | z
  · simp at z
  · exact hc.mem (of_decide_eq_true z)
end MP
set_option Elab.async false
set_option linter.all false
set_option maxRecDepth 100000
set_option maxHeartbeats 1000000
namespace MP
open PySem PySem.Spec PyProof.Rows L2 SP
/-! ### {e!s} of a value of an own class -/
def isStrZ (d : D) : MM D := fun st => match d with
  | .str x => if x.length ≤ 1000000 then .ok (.str x) st else .bad
  | _ => .bad
def mFmtS (T : Tb) (d : D) : MM D := fun st => match ownFn T "__str__" d st with
  | some (_, q) => (T.run q [d] st).bind isStrZ
  | none => .bad
theorem fmt_s {prog : Program} {w : World} {A : Around} {env : Env} {value : Expr} {pos : Pos} {Q E : Value → Shared → Prop} {s : Shared} (h : wpAny (model prog w) A (eval value env) (fun v s₁ => ∃ a, v = .ref a ∧ wpAny (model prog w) A (pyStrObj (.ref a)) (fun r s₂ => wpAny (model prog w) A (formatField r Str.empty) Q E s₂) E s₁) E s) :
    wpAny (model prog w) A (eval (.FormattedValue value 115 none pos) env) Q E s := by
  rw [arm_eval_FormattedValue]
  refine wpAny_bind (wpAny_mono h (fun v s₁ h₁ => ?_) fun _ _ x => x)
  obtain ⟨a, rfl, h₁⟩ := h₁
  refine wpAny_bind (wpAny_standAt ?_)
  show wpAny _ _ (do let v' ← holding [.ref a] (pyStrObj (.ref a)); formatField v' Str.empty) Q E s₁
  exact wpAny_bind (wpAny_holding h₁)
section
variable {G : Gc} {X : Cx} {Wx : WX} {k : Nat} {T : Tb} {pos : Pos} {e : Expr} {me : EE}
theorem ev_fmtS (N : En G X Wx k T) (he : EvE G X Wx e me) : EvE G X Wx (.FormattedValue e 115 none pos) (eUn (mFmtS T) me) := by
  refine ⟨fun pins s σ H Q I ⟨W, sto, sl, w, rs, h⟩ => ?_⟩
  refine fmt_s (thn (he.run pins s σ H _ I (one w rs h)) fun v s1 ⟨x, H1, I1, r1, W1, st1, d, e1, w1, rs1, rr, _, h1⟩ => ?_)
  unfold mFmtS at h1
  split at h1
  · rename_i c q ho
    obtain ⟨a, dx, fs, rfl, ea, IO, M⟩ := own_at N w1 rr ho
    obtain rfl : v = Value.ref a := r1
    obtain ⟨od, J⟩ := ins_inst I1 ea
    refine ⟨a, rfl, ?_⟩
    have hr1 : Room (k + 1) X.A := N.rm.mono (by omega)
    have h2 := post.bind (rel' := Rep G) h1
    refine PySem.W.kfo_str hr1.units0 I1.kIn J (show PySem.W.findIn X.K (.ref (G.ga c)) "__str__" = _ from M.at_) M.fn ?_
    refine wpAny_mono (wpAny_call (N.call (us := [.ref a]) (vs := [.ref a]) (hr1.mono (by omega)) N.gd I1.env0 I1 (.cons rfl .nil) (lok_of rs1) w1 (.one_ rr) h2)) (fun w s' z => ?_) fun _ _ x => x
    obtain ⟨z', H', I', rz, W2, st2, d2, e2, w2, rd, _, q2⟩ := z
    cases d2 with
    | str y =>
      cases rep_str rd
      have q2 : postE G (LX X sl.lk σ) Wx σ W2 H' Q (if y.length ≤ 1000000 then .ok (.str y) st2 else .bad) := q2
      split at q2
      · rename_i hz
        obtain ⟨t, rfl⟩ := rz
        exact strback ⟨t, rfl⟩ (wpAny_formatField_str ⟨.str y, H', I', ⟨t, rfl⟩, q2.same w2 (.str _)⟩ ⟨.str y, H', I'.tok _, ⟨_, rfl⟩, q2.same w2 (.str _)⟩ (small hz))
      · exact False.elim q2
    | _ => exact False.elim q2
  · exact False.elim h1
end
end MP
set_option Elab.async false
set_option linter.all false
set_option maxRecDepth 100000
set_option maxHeartbeats 1000000
namespace MP
open PySem PySem.Spec PyProof.Rows L2 SP
/-! ### the sum of two lists, a list that may change later -/
def lAddM (x y : D) : MM D := fun st => match seqOf x st, seqOf y st with
  | some a, some b => if a.length + b.length ≤ 1000000 then .ok (.mref st.length) (st ++ [.lst (a ++ b)]) else .bad
  | _, _ => .bad
section
variable {G : Gc} {X : Cx} {Wx : WX} {a b : Expr} {ma mb : EE} {pos : Pos}
theorem s_addLM : OpS G X Wx (binaryOp .Add) lAddM := opS_of op_cat fun σ H x y Q L W st d1 d2 w r1 r2 q => by
  unfold lAddM at q
  split at q
  · rename_i a b e1 e2
    split at q
    · rename_i h
      obtain ⟨p, vs, rfl, h1, q1⟩ := seq_at w r1 e1
      obtain ⟨p2, vs2, rfl, h2, q2⟩ := seq_at w r2 e2
      exact ⟨p, p2, vs, vs2, rfl, rfl, h1, h2, small (by rw [q1.len, q2.len]; exact h), new_lstM w (q1.app q2) q⟩
    · exact False.elim q
  · exact False.elim q
end
end MP
set_option Elab.async false
set_option linter.all false
set_option maxRecDepth 100000
set_option maxHeartbeats 1000000
namespace MP
open PySem PySem.Spec PyProof.Rows L2 SP LamX
/-! ### lambdas as values (lists of lambdas) -/
section
variable {G : Gc} {X Y : Cx} {Wx Wy : WX} {k : Nat} {T : Tb}
theorem ev_lamV {params : Arguments} {body : Expr} {scope : Scope} {pos : Pos} {sites : List (Arguments × Expr × Scope)} (id : Nat) (N : En G X Wx k T) (M : LamN G X k) (hfr : G.x.fr = some ⟨X.env.cells, X.env.qual, sites⟩) (hs : sites[id]? = some (params, body, scope)) (L : LamS X.env.scope scope) (hdef : defaultsOf params X.env = ([], [])) :
    EvE G X Wx (.Lambda params body scope pos) (eC (.lam id [])) := by
  refine ⟨fun pins s σ H Q I ⟨W, sto, sl, w, rs, h⟩ => ?_⟩
  obtain ⟨c, P, hcode, hmem⟩ := M.ex
  have hmT : (P, X.env.qual ++ "<lambda>") ∈ G.tabs := List.mem_map.mpr ⟨_, hmem, rfl⟩
  refine lam_new I (N.tb _ hmem) hcode hmT (fun p hp e => N.tu _ hmT p hp e) w.gk.tb hdef (L.has I.ok) fun f c' pm' ctv H1 s' _ I2 eN nN T1 hcn hf hfn hfr' hco => ?_
  obtain ⟨se, w1, ex⟩ := lam_world w eN nN T1 hcn hco
  have h : postE G (LX X sl.lk σ) Wx σ W H Q (.ok (.lam id []) sto) := h
  refine ⟨.ref f, _, I2, rfl, h _ _ ((W.add c').add f) (ex.trans (add_ext w1 hfn)) (add_ok w1 hfn fun _ z => nomatch z) ?_⟩
  refine .lam hfr hs (.inr rfl) (.inl (.inr rfl)) upd_same ?_
  rw [upd_ne (ne_of_none hco hfn)]
  exact hco
/-- a lambda's body, wherever it is called -/
structure LvS (G : Gc) (X : Cx) (k : Nat) (T : Tb) (si : Arguments × Expr × Scope) (m : EE) : Prop where
  L : LamS X.env.scope si.2.2
  bind : ∀ (q : Str) (cl : List (Str × Addr)) (pm cv ctv : Value), bindArgs (PySem.W.kla_fn "<lambda>" q si.1 si.2.1 si.2.2 cl pm cv ctv) ⟨[], []⟩ = pure []
  ev : ∀ (e : Gx) (A : Around) (outer : List Env) (s : Shared) (H : Hp) (E : XK) (f c' : Addr), En { G with x := e } (lamCx X A outer s H E si.2.2 f c') (wOf E) k T → EvE { G with x := e } (lamCx X A outer s H E si.2.2 f c') (wOf E) si.2.1 m
def LvAll (G : Gc) (X : Cx) (k : Nat) (T : Tb) (sites : List (Arguments × Expr × Scope)) (ms : List EE) : Prop := ∀ (id : Nat) (m : EE), ms[id]? = some m → ∃ si, sites[id]? = some si ∧ LvS G X k T si m
theorem lv_nil {sites : List (Arguments × Expr × Scope)} : LvAll G X k T sites [] := fun id m e => by simp at e
theorem lv_cons {params : Arguments} {body : Expr} {scope : Scope} {sites : List (Arguments × Expr × Scope)} {m : EE} {ms : List EE} (L : LamS X.env.scope scope) (hb : ∀ (q : Str) (cl : List (Str × Addr)) (pm cv ctv : Value), bindArgs (PySem.W.kla_fn "<lambda>" q params body scope cl pm cv ctv) ⟨[], []⟩ = pure [])
    (hL : ∀ (e : Gx) (A : Around) (outer : List Env) (s : Shared) (H : Hp) (E : XK) (f c' : Addr), En { G with x := e } (lamCx X A outer s H E scope f c') (wOf E) k T → EvE { G with x := e } (lamCx X A outer s H E scope f c') (wOf E) body m)
    (r : LvAll G X k T sites ms) : LvAll G X k T ((params, body, scope) :: sites) (m :: ms) := fun id m' e => by
  cases id with
  | zero => simp at e; subst e; exact ⟨_, rfl, L, hb, hL⟩
  | succ id => exact r id m' (by simpa using e)
noncomputable def holeSel (n : Nat) (hb : MM D → SS) (ms : List EE) (sl : Sl) (d : D) : MM D := fun st => match d with
  | .lam id _ => match ms[id]? with
    | some m => eHole n hb m sl st
    | none => .bad
  | _ => .bad
noncomputable def eHoleV (n : Nat) (hb : MM D → SS) (ms : List EE) (me : EE) : EE := fun sl st => (me sl st).bind fun d st => holeSel n hb ms sl d st
/-- the same, of a lambda that is known -/
theorem ask_SV {W1 : Wd} {H1 : Hp} {s1 : Shared} {pins : List (Addr × Obj)} {σ : L2.St} {sl : Sl} {f c' : Addr} {cdg : Value} {params : Arguments} {body : Expr} {scope sg : Scope} {a x : Str} {m : EE} {E : XK} {Ng : List Str} {g : Addr} {e : Gx}
    (he : e.pin = f) (hef : e.fr = G.x.fr) (hco : (c', X.env.qual ++ "<lambda>") ∈ e.co) (han : (W1, H1) ∈ e.an) (I : Inv X pins σ H1 s1) (L : LamS X.env.scope scope) (hF : W1.F f) (hlam : H1 f = some (LamHO f c' (X.env.qual ++ "<lambda>") params body scope (cloFrom X.env.cells scope.names [])))
    (hbind : ∀ (q : Str) (cl : List (Str × Addr)) (pm cv ctv : Value), bindArgs (PySem.W.kla_fn "<lambda>" q params body scope cl pm cv ctv) ⟨[], []⟩ = pure []) (rs : RepS G W1 H1 σ sl)
    (hr : Room (k + 3) (X.A.deeper (envOfC x sg s1.heap.objs.size g cdg))) (hgd : X.A.guards = some []) (N : En G X Wx k T)
    (hL : ∀ (A : Around) (outer : List Env) (s : Shared) (H : Hp) (E : XK), En { G with x := e } (lamCx X A outer s H E scope f c') (wOf E) k T → EvE { G with x := e } (lamCx X A outer s H E scope f c') (wOf E) body m)
    (hN : Ng[0]? = some a) (hv : Vis sg a) (hd : (a == ("__debug__" : Str)) = false := by decide) (hcd : (a == ("__classdict__" : Str)) = false := by decide) :
    AskC { G with x := e } (bx X.prog X.w G X.mg X.base Ng x sg g cdg X.A X.stack s1 H1 E) k T a (fun st => m ⟨sl.v, false⟩ st) := by
  intro pn xe Wz p1 p2 Nz
  refine ⟨fun pinsZ sZ σZ HZ Q IZ ⟨WZ, stZ, slZ, wZ, rsZ, hZ⟩ => ?_⟩
  unfold eAsk at hZ
  by_cases hlk : slZ.lk = true
  · rw [if_pos hlk] at hZ
    have hs : σZ[0]? = some (some (.ref f)) := by
      have := rsZ.lk hlk
      rw [this]
      show some (some (V.ref e.pin)) = _
      rw [he]
    refine wpAny_Call_Name_kw (thn ((pe_var (pos := p1) (i := 0) hN hv hd hcd).run pinsZ sZ σZ HZ (fun v H' => v = .ref f ∧ H' = HZ) IZ ⟨.ref f, hs, rfl, rfl⟩) fun u s2 ⟨v, H', I2, r2, q2⟩ => ?_)
    obtain ⟨ev, eH⟩ := q2
    subst ev
    rw [eH] at I2
    obtain rfl : u = Value.ref f := r2
    obtain ⟨pm, ctv, of2⟩ := (I2.hok f _ (((wZ.gk.an _ han).hf f hF).trans hlam)).1
    refine PySem.W.callWith_F0 ⟨_, _, _, _, of2⟩ ?_
    have un : Un (frs X.stack) [] H1 HZ s1.heap s2.heap := I2.base
    obtain ⟨⟨oc, vs, t, hoc, hdc, hvc⟩, _, _⟩ := I2.hok c' _ (wZ.gk.co _ hco)
    have rc : codeAny (model X.prog X.w) (X.A.deeper (envOfC x sg s1.heap.objs.size g cdg)) (.call (.ref f) ⟨[], []⟩) (CR (L2.CX X.prog X.w) (envOfC x sg s1.heap.objs.size g cdg :: X.stack) X.prog X.w HZ s2 Q (fun cls dd H' => Wz cls dd σZ H')) s2 := by
      refine PySem.W.kla_callFunE hr.depth of2 rfl L.co L.gen rfl ⟨c', oc, vs, t, rfl, hoc, hdc, hvc⟩ ?_
      rw [hbind]
      refine wpAny_pure (wpAny_newFunctionEnv (fun y hy => (L.own y hy).2) (fun y hy => absurd hy (by simp)) (fun h₁ hns hsb => ⟨I2.nolimit.fresh _ hsb, ?_⟩) L.kind)
      show codeAny _ _ (.expr body (lamEnv X scope s2.heap.objs.size f c')) _ _
      have kp : ∀ b o, s2.heap.get? b = some o → h₁.get? b = some o := fun b o e => hsb.extBut b o (Nat.ne_of_lt (Heap.lt_size e)) (Heap.get?_push_of_some _ e)
      have J : Inv (lamCx X (X.A.deeper (envOfC x sg s1.heap.objs.size g cdg)) (envOfC x sg s1.heap.objs.size g cdg :: X.stack) s2 HZ (fun cls dd H' => Wz cls dd σZ H') scope f c') [] σ HZ { s2 with heap := h₁, toks := s2.toks + ([] : List (Str × Value)).length } :=
        lam_start2 I L (by rw [N.hK]; exact I2.env0) hr.hd un hns kp
      have C : Ct (lamCx X (X.A.deeper (envOfC x sg s1.heap.objs.size g cdg)) (envOfC x sg s1.heap.objs.size g cdg :: X.stack) s2 HZ (fun cls dd H' => Wz cls dd σZ H') scope f c') (wOf fun cls dd H' => Wz cls dd σZ H') (k + 2) :=
        ⟨takes_of rfl rfl rfl rfl, hr.deeper _, hgd, rfl, passes_of rfl⟩
      have Nl := (N.gx e).at_ (Y := lamCx X (X.A.deeper (envOfC x sg s1.heap.objs.size g cdg)) (envOfC x sg s1.heap.objs.size g cdg :: X.stack) s2 HZ (fun cls dd H' => Wz cls dd σZ H') scope f c') rfl rfl rfl rfl rfl C
      have rsl : RepS { G with x := e } WZ HZ σ ⟨sl.v, false⟩ := ⟨rs.len, fun i d q => by
        obtain ⟨v, h1, h2⟩ := rs.at_ i d q
        exact ⟨v, h1, (Rep.gc (G := G) (G' := { G with x := e }) rfl hef h2).see (wZ.gk.an _ han)⟩, fun z => nomatch z⟩
      refine PySem.W.kla_codeExpr (wpAny_mono ((hL _ _ _ _ _ Nl).run [] _ _ HZ Q J ⟨WZ, stZ, ⟨sl.v, false⟩, wZ.ln lok_false |>.nl, rsl, ?_⟩) (fun v s' hq => ?_) fun e s' hq => hq)
      · replace hZ : post _ _ _ _ _ _ _ _ (m ⟨sl.v, false⟩ stZ) := hZ
        revert hZ
        cases m ⟨sl.v, false⟩ stZ with
        | ok d st => exact fun h v H' W' e w r => h v H' W' e (w.ln lok_false).nl r
        | exc d st => exact fun h c dd H' W' e w r => h c dd H' W' e (w.ln lok_false).nl r
        | bad => exact id
      · obtain ⟨w', H', J', rv, q⟩ := hq
        exact ⟨w', H', J'.os, J'.bare, J'.base, J'.hok, rv, q⟩
    refine wpAny_call (codeAny_mono rc fun r s' hq => ?_)
    cases r with
    | error e => exact Nz.tk _ _ (XE.of_call I2 (fun _ _ _ z => z) hq)
    | ok fl =>
      cases fl with
      | ret u => exact I2.after hq
      | next => exact False.elim hq
      | brk => exact False.elim hq
      | cont => exact False.elim hq
  · rw [if_neg hlk] at hZ
    exact False.elim hZ
/-- x(e), e a lambda that is known -/
theorem ev_holeV {sites : List (Arguments × Expr × Scope)} {ms : List EE} {me : EE} {e : Expr} {x a : Str} {bodyg : List Stmt} {sg : Scope} {Ng : List Str} {hb : MM D → SS} {p pos : Pos} (N : En G X Wx k T) (M : LamN G X k) (HD : HolD G x a bodyg sg Ng) (hx : T.glo x = some .fn) (hg : Gl X x)
    (hN : Ng[0]? = some a) (hva : Vis sg a) (hfr : G.x.fr = some ⟨X.env.cells, X.env.qual, sites⟩) (hms : LvAll G X k T sites ms) (hev : EvE G X Wx e me)
    (hB : ∀ (e : Gx) (ask : MM D) (cdv : Value) (A : Around) (outer : List Env) (s : Shared) (H : Hp) (E : XK), En { G with x := e } (bx X.prog X.w G X.mg X.base Ng x sg (G.fa x) cdv A outer s H E) (wOf E) k T →
      AskC { G with x := e } (bx X.prog X.w G X.mg X.base Ng x sg (G.fa x) cdv A outer s H E) k T a ask → EvSs { G with x := e } (bx X.prog X.w G X.mg X.base Ng x sg (G.fa x) cdv A outer s H E) (wOf E) bodyg (hb ask))
    (hse : starEach [e] X.env = (false, eval e X.env) :: starEach [] X.env := by rfl) (hdb : (x == ("__debug__" : Str)) = false := by decide) (hd : (a == ("__debug__" : Str)) = false := by decide) (hcd : (a == ("__classdict__" : Str)) = false := by decide) :
    EvE G X Wx (.Call (.Name x p) [e] [] pos) (eHoleV Ng.length hb ms me) := by
  refine ⟨fun pins s0 σ H0 Q I0 ⟨W0, sto0, sl, w0, rs0, h0⟩ => ?_⟩
  obtain ⟨pg, fd, F, hbn, S⟩ := HD
  obtain ⟨oc, od, dV, kV, doc, pm, an, cdv, ct, osl, rfl, lk, hcg, _, _⟩ := F.ex
  obtain ⟨c, P, hcode, hmem⟩ := M.ex
  obtain ⟨hm, hk⟩ := N.glo x _ hx
  have ef : G.fa x = G.ga x := N.fg x hx
  refine wpAny_Call_Name_kw (ld_glob I0 hg hm ?_ hdb)
  refine PySem.W.callWith_K (h₀ := X.base) I0.ok.mod.kin hk ?_ hse (by rfl)
  rw [hse]
  show wpAny _ _ (spliced ((false, eval e X.env) :: backTo pos (starEach [] X.env))) _ _ s0
  refine Calls.spliced_cons (thn (hev.run pins s0 σ H0 _ I0 (one w0 rs0 h0)) fun u s' ⟨v, H1, I1, r, W1, sto, d, e1, w1, rs, rr, _, h1⟩ => ?_)
  refine Calls.spliced_nil ⟨I1.kIn, ?_⟩
  replace h1 : postE G (LX X sl.lk σ) Wx σ W1 H1 Q (holeSel Ng.length hb ms sl d sto) := h1
  unfold holeSel at h1
  obtain ⟨id, m, rfl, hm1, h1⟩ : ∃ id m, d = .lam id [] ∧ ms[id]? = some m ∧ postE G (LX X sl.lk σ) Wx σ W1 H1 Q (eHole Ng.length hb m sl sto) := by
    cases rr with
    | @lam f c' id fr si q1 q2 q3 q4 q5 q6 =>
      dsimp only at h1
      cases hm1 : ms[id]? with
      | none => rw [hm1] at h1; exact False.elim h1
      | some m => rw [hm1] at h1; exact ⟨id, m, rfl, hm1, h1⟩
    | _ => exact False.elim h1
  replace h1 : postE G (LX X sl.lk σ) Wx σ W1 H1 Q (hFn Ng.length (hb fun sto => m ⟨sl.v, false⟩ sto) sto) := h1
  obtain ⟨si, hsi, LV⟩ := hms id m hm1
  obtain ⟨f, c', fr, si', rfl, q1, q2, q3, q4, q5, q6⟩ : ∃ f c' fr si, v = .ref f ∧ G.x.fr = some fr ∧ fr.sites[id]? = some si ∧ W1.F f ∧ W1.F c' ∧ H1 f = some (LamHO f c' (fr.qual ++ "<lambda>") si.1 si.2.1 si.2.2 (cloFrom fr.cells si.2.2.names [])) ∧ H1 c' = some (CodeO c' (fr.qual ++ "<lambda>")) := by
    cases rr with
    | lam q1 q2 q3 q4 q5 q6 => exact ⟨_, _, _, _, rfl, q1, q2, q3, q4, q5, q6⟩
  rw [hfr] at q1
  cases q1
  rw [hsi] at q2
  cases q2
  obtain ⟨params, body, scope⟩ := si
  obtain ⟨L, hbind, hL⟩ := LV
  obtain rfl : u = Value.ref f := r
  have g1 := w1.gk
  obtain ⟨e0, he⟩ : ∃ e : Gx, e = ⟨G.x.fr, f, (c', X.env.qual ++ "<lambda>") :: G.x.co, (W1, H1) :: G.x.an⟩ := ⟨_, rfl⟩
  have g2 : Gok { G with x := e0 } W1 H1 := by
    subst he
    refine ⟨g1.tb, fun p hp => ?_, fun p hp => ?_⟩
    · rcases List.mem_cons.mp hp with rfl | hp
      · exact q6
      · exact g1.co p hp
    · rcases List.mem_cons.mp hp with rfl | hp
      · exact Sees.refl
      · exact g1.an p hp
  have back : ∀ {W' : Wd} {H' : Hp}, Gok { G with x := e0 } W' H' → Gok G W' H' := fun g => by
    subst he
    exact ⟨g.tb, fun p hp => g.co p (List.mem_cons_of_mem _ hp), fun p hp => g.an p (List.mem_cons_of_mem _ hp)⟩
  have w2 : WOk { G with x := e0 } LN W1 H1 sto := WOk.gc (G := G) (G' := { G with x := e0 }) rfl (by rw [he]) (w1.ln lok_false) g2
  have p2 : postF { G with x := e0 } W1 H1 Q (fun cls dd H' => Wx cls dd σ H') (hFn Ng.length (hb fun sto => m ⟨sl.v, false⟩ sto) sto) := by
    revert h1
    cases hFn Ng.length (hb fun sto => m ⟨sl.v, false⟩ sto) sto with
    | ok d sto => exact fun h v H' W' e w r => h v H' W' e (WOk.gc (G := { G with x := e0 }) (G' := G) rfl (by rw [he]) w (back w.gk)).nl (Rep.gc (G := { G with x := e0 }) (G' := G) rfl (by rw [he]) r)
    | exc d sto => exact fun h c dd H' W' e w r => h c dd H' W' e (WOk.gc (G := { G with x := e0 }) (G' := G) rfl (by rw [he]) w (back w.gk)).nl (RepX.gc (G := { G with x := e0 }) (G' := G) rfl (by rw [he]) r)
    | bad => exact fun z => z
  have hdep : Room (k + 3 + 1) X.A := M.rm
  have C : ∀ E : XK, Ct (bx X.prog X.w G X.mg X.base Ng x sg (G.fa x) cdv X.A X.stack s' H1 E) (wOf E) (k + 3) := fun E => ct_of (hdep.deeper _) N.gd
  have HA := fun E => ask_SV (e := e0) (x := x) (sg := sg) (Ng := Ng) (g := G.fa x) (cdg := cdv) (E := E) (by rw [he]) (by rw [he]) (by rw [he]; exact List.mem_cons_self) (by rw [he]; exact List.mem_cons_self) I1 L q3 q5 hbind rs (hdep.deeper _) N.gd N (fun A outer s H E => hL e0 A outer s H E f c') hN hva hd hcd
  have e1 : Env0 X.prog X.w G.K X.mg X.base X.A X.stack s' H1 := by
    rw [← N.hK]
    exact I1.env0
  have lk' : X.K.lookup (G.ga x) = some ⟨oc, od, .func (PySem.W.fnOf x x pg bodyg sg dV kV doc pm an cdv ct), osl⟩ := by
    rw [N.hK, ← ef]
    exact lk
  have rc : codeAny (model X.prog X.w) X.A (.call (.ref (G.fa x)) ⟨[.ref f], []⟩) (CR (L2.CX X.prog X.w) X.stack X.prog X.w H1 s' Q (fun cls dd H' => Wx cls dd σ H')) s' := by
    have En' := fun E : XK => (N.gx e0).at_ (Y := bx X.prog X.w G X.mg X.base Ng x sg (G.fa x) cdv X.A X.stack s' H1 E) (Wy := wOf E) rfl rfl N.hK.symm rfl rfl ⟨(C E).tk, (C E).rm.mono (by omega), (C E).gd, (C E).calm, (C E).po⟩
    refine run_G (G := { G with x := e0 }) (ps := [a]) (us' := [.ref f]) (vs' := [.ref f]) lk hcg S hdep e1 (hbn s' [.ref f] (by rw [← N.hK]; exact I1.kIn) rfl) (.cons rfl .nil) rfl (hB e0 _ cdv X.A X.stack s' H1 _ (En' _) (HA _)) ⟨sto.length, W1, sto, ⟨List.replicate Ng.length none, true⟩, by rw [w2.len]; exact Nat.le_refl _, w2.nl, ⟨?_, fun i d q => ?_, fun _ => ?_⟩, end_S w2 p2⟩
    · have : 0 < Ng.length := (List.getElem?_eq_some_iff.mp hN).1
      show ([V.ref f].map some ++ List.replicate (Ng.length - [V.ref f].length) none).length = (List.replicate Ng.length (none : Option D)).length
      simp
      omega
    · have q : (List.replicate Ng.length (none : Option D))[i]? = some (some d) := q
      rw [List.getElem?_replicate] at q
      split at q <;> simp at q
    · show (L2.start Ng [V.ref f])[0]? = some (some (V.ref e0.pin))
      rw [he]
      rfl
  rw [ef] at rc
  refine wpAny_call (codeAny_mono rc fun r s2 hq => ?_)
  cases r with
  | error e => exact N.tk _ _ (XE.of_call I1 (fun _ _ _ z => z) hq)
  | ok fl =>
    cases fl with
    | ret u => exact I1.after hq
    | next => exact False.elim hq
    | brk => exact False.elim hq
    | cont => exact False.elim hq
end
/-! ### the def in whose frame they live -/
mutual
def D.nl : D → Bool
  | .lam _ _ => false
  | .tup xs => nlL xs | .lst xs => nlL xs | .slst xs => nlL xs | .dic kvs => nlK kvs
  | .ins _ fs => nlF fs | .exc _ fs => nlF fs
  | _ => true
def nlL : List D → Bool
  | [] => true
  | d :: ds => d.nl && nlL ds
def nlF : List (Str × D) → Bool
  | [] => true
  | (_, d) :: ds => d.nl && nlF ds
def nlK : List (Key × D) → Bool
  | [] => true
  | (_, d) :: ds => d.nl && nlK ds
end
def MO.nl : MO → Bool
  | .lst xs => nlL xs
  | .ins _ fs => nlF fs
  | .frz d => d.nl
section
variable {G G' : Gc} {X : Cx} {Wx : WX} {k : Nat} {T : Tb} {W W' : Wd} {H H' : Hp} {L : Addr → V → Prop} {st st' : Sto} {σ : L2.St}
mutual
theorem Rep.fr (e : G'.ga = G.ga) : ∀ {v : V} {d : D}, Rep G W H v d → d.nl = true → Rep G' W H v d
  | _, _, .non, _ => .non
  | _, _, .bl b, _ => .bl b
  | _, _, .int i, _ => .int i
  | _, _, .str x, _ => .str x
  | _, _, .ty n, _ => .ty n
  | _, _, .glo x, _ => by rw [← e]; exact .glo x
  | _, _, .tup f h r, c => .tup f h (RepL.fr e r c)
  | _, _, .lst f h r, c => .lst f h (RepL.fr e r c)
  | _, _, .slst f h r, c => .slst f h (RepL.fr e r c)
  | _, _, .dic f h r, c => .dic f h (RepK.fr e r c)
  | _, _, .ins f h r, c => .ins f (by rw [e]; exact h) (RepF.fr e r c)
  | _, _, .exc f g h k r, c => .exc f g (by rw [e]; exact h) k (RepF.fr e r c)
  | _, _, .exc0 f h, _ => .exc0 f (by rw [e]; exact h)
  | _, _, .mref h, _ => .mref h
  | _, _, .lam _ _ _ _ _ _, c => nomatch c
theorem RepL.fr (e : G'.ga = G.ga) : ∀ {v : List V} {d : List D}, RepL G W H v d → nlL d = true → RepL G' W H v d
  | _, _, .nil, _ => .nil
  | _, _, .cons h r, c => .cons (Rep.fr e h (band c).1) (RepL.fr e r (band c).2)
theorem RepF.fr (e : G'.ga = G.ga) : ∀ {v : List (Str × V)} {d : List (Str × D)}, RepF G W H v d → nlF d = true → RepF G' W H v d
  | _, _, .nil, _ => .nil
  | _, _, .cons h r, c => .cons (Rep.fr e h (band c).1) (RepF.fr e r (band c).2)
theorem RepK.fr (e : G'.ga = G.ga) : ∀ {v : List (Key × V)} {d : List (Key × D)}, RepK G W H v d → nlK d = true → RepK G' W H v d
  | _, _, .nil, _ => .nil
  | _, _, .cons h r, c => .cons (Rep.fr e h (band c).1) (RepK.fr e r (band c).2)
end
theorem RepO.fr (e : G'.ga = G.ga) {a : Addr} {o : MO} (h : RepO G W H a o) (c : o.nl = true) : RepO G' W H a o := by
  cases o with
  | lst xs => obtain ⟨h1, vs, h2, h3⟩ := h; exact ⟨h1, vs, h2, h3.fr e c⟩
  | ins d gs => obtain ⟨h1, dx, fs, h2, h3⟩ := h; exact ⟨h1, dx, fs, by rw [e]; exact h2, h3.fr e c⟩
  | frz d => obtain ⟨h1, h2⟩ := h; exact ⟨h1, h2.fr e c⟩
theorem WOk.fr (e : G'.ga = G.ga) (w : WOk G L W H st) (g : Gok G' W H) (c : st.all MO.nl = true) : WOk G' L W H st :=
  ⟨w.len, w.nd, w.fh, fun k a o h1 h2 => (w.at_ k a o h1 h2).fr e (List.all_eq_true.mp c o (List.mem_of_getElem? h2)), w.ce, g⟩
def slNl (o : Option D) : Bool := match o with
  | some d => d.nl
  | none => true
theorem RepS.fr (e : G'.ga = G.ga) (ep : G'.x.pin = G.x.pin) {sl : Sl} (r : RepS G W H σ sl) (c : sl.v.all slNl = true) : RepS G' W H σ sl :=
  ⟨r.len, fun i d q => by
    obtain ⟨v, h1, h2⟩ := r.at_ i d q
    exact ⟨v, h1, h2.fr e (List.all_eq_true.mp c _ (List.mem_of_getElem? q))⟩, fun q => by rw [ep]; exact r.lk q⟩
theorem cutN_ext {n : Nat} (e : Ext n W H W' H') : Ext n W H (W'.cut W.mu.length) H' := by
  obtain ⟨l, q, r⟩ := e.mu
  refine ⟨e.f, e.hf, e.fn, ⟨[], ?_, by simp⟩, e.no, e.ce, e.keep⟩
  show W'.mu.take _ = _
  rw [q]
  simp
theorem cutN_ok {n : Nat} {L' : Addr → V → Prop} (w : WOk G L W H st) (e : Ext n W H W' H') (w' : WOk G' L' W' H' st') (hx : G'.x.an = G.x.an) (c : okCut st st') : WOk G' L' (W'.cut W.mu.length) H' (st'.take st.length) := by
  obtain ⟨l, q, r⟩ := e.mu
  have hl := e.len
  refine ⟨?_, ?_, w'.fh, fun k a o h1 h2 => ?_, w'.ce, ?_⟩
  · show (W'.mu.take _).length = _
    rw [List.length_take, List.length_take, ← w.len, ← w'.len]
  · exact w'.nd.sublist (List.take_sublist _ _)
  · have hk : k < W.mu.length := by
      have h1 : (W'.mu.take W.mu.length)[k]? = some a := h1
      have := (List.getElem?_eq_some_iff.mp h1).1
      rw [List.length_take] at this
      omega
    have h1 : (W'.mu.take W.mu.length)[k]? = some a := h1
    rw [List.getElem?_take_of_lt hk] at h1
    rw [List.getElem?_take_of_lt (by rw [← w.len]; exact hk)] at h2
    refine (w'.at_ k a o h1 h2).cut ?_
    rcases c k (by rw [← w.len]; exact hk) with c | ⟨o', c1, c2⟩
    · rw [h2] at c
      have ha : W.mu[k]? = some a := by
        rw [q, List.getElem?_append_left hk] at h1
        exact h1
      exact (w.at_ k a o ha c.symm).clean
    · rw [h2] at c1
      cases c1
      rw [w.len]
      exact c2
  · exact ⟨w'.gk.tb, w'.gk.co, fun p hp => (w.gk.an p (by rw [← hx]; exact hp)).trans (cutN_ext e).sees⟩
open Classical in
noncomputable def gEnd (st : Sto) : SR → SR
  | .rt d st' => if d.clean st.length = true ∧ d.nl = true ∧ okCut st st' ∧ (st'.take st.length).all MO.nl = true then .rt d (st'.take st.length) else .bad
  | _ => .bad
noncomputable def sGuard (b : SS) : SS := fun n sl st => if st.all MO.nl = true ∧ sl.v.all slNl = true then gEnd st (b n sl st) else .bad
abbrev frG (G : Gc) (X : Cx) (sites : List (Arguments × Expr × Scope)) : Gc := { G with x := { G.x with fr := some ⟨X.env.cells, X.env.qual, sites⟩ } }
theorem ev_guard {body : List Stmt} {b : SS} (sites : List (Arguments × Expr × Scope)) (N : En G X Wx k T) (M : LamN G X k) (h : ∀ (N : En (frG G X sites) X Wx k T) (M : LamN (frG G X sites) X k), EvSs (frG G X sites) X Wx body b) : EvSs G X Wx body (sGuard b) :=
  PSs.imp (h (N.gx _) ⟨M.ex, M.rm⟩) fun Z σ H ⟨n, W, sto, sl, hl, w, rs, hp⟩ => by
    unfold sGuard at hp
    split at hp
    · rename_i hc
      refine ⟨n, W, sto, sl, hl, w.fr (G := G) (G' := frG G X sites) rfl ⟨w.gk.tb, w.gk.co, w.gk.an⟩ hc.1, rs.fr (G := G) (G' := frG G X sites) rfl rfl hc.2, ?_⟩
      revert hp
      cases hr : b n sl sto with
      | rt d sto' =>
        intro hp v H' W' e w' r
        replace hp : postS G X Wx n W H Z (gEnd sto (.rt d sto')) := hp
        unfold gEnd at hp
        dsimp only at hp
        split at hp
        · rename_i hq
          obtain ⟨q1, q2, q3, q4⟩ := hq
          have w2 := cutN_ok (G' := frG G X sites) w e w' rfl q3
          have w3 : WOk G LN (W'.cut W.mu.length) H' (sto'.take sto.length) := w2.fr (G := frG G X sites) (G' := G) rfl ⟨w2.gk.tb, w2.gk.co, w2.gk.an⟩ q4
          refine hp v H' (W'.cut W.mu.length) (cutN_ext e) w3 ?_
          have r2 : Rep G W' H' v d := r.fr (G := frG G X sites) (G' := G) rfl q2
          exact r2.cut (by rw [w.len]; exact q1)
        · exact False.elim hp
      | _ => intro hp; exact False.elim hp
    · exact False.elim hp
end
end MP
set_option Elab.async false
set_option linter.all false
set_option maxRecDepth 100000
set_option maxHeartbeats 2000000
namespace MP
open PySem PySem.Spec PyProof.Rows L2 SP
/-! ### x op= e -/
section
variable {prog : Program} {w : World} {A : Around} {E : Value → Shared → Prop} {s : Shared} {K : PySem.W.Frag} {x C f : Addr} {ox : Obj} {od : Option Obj} {L : Addr} {h₀ : Heap} {m : Str → Option Value}
theorem fillsI_K {M : Model} {h : Heap} {nm : String} {add : Bool} (X : K.In h) (h2 : mro2 K C = true) (hi : PySem.W.findIn K (.ref C) (PySem.dunderI nm) = some none) (ho : typeLookup (.type "object") (PySem.dunderI nm) = pure none) : PySem.W.Looks M h (fillsInplaceSlot (.ref C) nm add) false := by
  obtain ⟨cd, hc, hm⟩ := PySem.W.any_some h2
  have hm : cd.mro = [.ref C, .type "object"] := beq_iff_eq.mp hm
  intro A Q E s k q
  unfold fillsInplaceSlot
  refine wpAny_bind ((PySem.W.looks_clsIn X hc).andThen (f := fun cd => pure cd.mro) .now A _ E s k ?_)
  rw [hm, List.anyM_cons]
  refine wpAny_bind (wpAny_bind (PySem.W.looks_findIn X hi A _ E s k ?_))
  dsimp only
  refine wpAny_pure ?_
  rw [if_neg (by decide), List.anyM_cons]
  refine wpAny_bind (wpAny_bind (wpAny_of_eq ho ?_))
  dsimp only
  refine wpAny_pure ?_
  rw [if_neg (by decide)]
  exact wpAny_pure q
theorem iop_own {op : Operator} {b : Value} {Q : Value → Shared → Prop} (X : K.In s.heap) (I : PySem.W.InstAt s.heap x ox C od) (h2 : mro2 K C = true) (hi : PySem.W.findIn K (.ref C) (PySem.dunderI op.info.2) = some none) (ho : typeLookup (.type "object") (PySem.dunderI op.info.2) = pure none)
    (h : wpAny (model prog w) A (binaryOp1 op.info.2 (.ref x) b) (fun r s' => ∃ v, r = some v ∧ Q v s') E s) : wpAny (model prog w) A (inplaceOp op (.ref x) b) Q E s := by
  unfold inplaceOp
  refine wpAny_holding (wpAny_bind (I.type.here ?_))
  refine wpAny_bind ((fillsI_K X h2 hi ho).here ?_)
  rw [if_neg (by decide)]
  refine wpAny_bind (wpAny_mono h (fun r s' z => ?_) fun _ _ e => e)
  obtain ⟨v, rfl, hq⟩ := z
  exact wpAny_pure hq
end
def mIBin (T : Tb) (op : Operator) (d1 d2 : D) : MM D := fun st => match clsOf d1 st with
  | some (c, _) => match T.kind c (PySem.dunderI op.info.2), T.kind c "$mro" with
    | .abs, .m2 => mBin T op d1 d2 st
    | _, _ => .bad
  | none => .bad
section
variable {G : Gc} {X : Cx} {Wx : WX} {k : Nat} {T : Tb}
theorem s_iBin (N : En G X Wx k T) {op : Operator} (hobj : typeLookup (.type "object") (PySem.dunderI op.info.2) = pure none) : OpS G X Wx (inplaceOp op) (mIBin T op) := by
  intro pins s σ H x y v u Q L W st d1 d2 I rx ry hL w r1 r2 h
  have hr : Room k X.A := N.rm.mono (by omega)
  unfold mIBin at h
  split at h
  case h_2 => exact False.elim h
  rename_i c0 gs0 hc0
  split at h
  case h_2 => exact False.elim h
  rename_i kI kM
  have I2 := N.kd c0 (PySem.dunderI op.info.2)
  rw [kI] at I2
  have M2 := N.kd c0 "$mro"
  rw [kM] at M2
  unfold mBin at h
  split at h
  · rename_i c q ho
    have hcc : c = c0 := by
      unfold ownFn at ho
      rw [hc0] at ho
      dsimp only at ho
      split at ho
      · split at ho
        · cases ho; rfl
        · cases ho
      · cases ho
    subst hcc
    obtain ⟨a, dx, fs, rfl, ea, IO, M⟩ := own_at N w r1 ho
    obtain rfl : v = Value.ref a := rx
    obtain ⟨od, J⟩ := ins_inst I ea
    have go : ∀ (h : postE G L Wx σ W H Q (T.run q [d1, d2] st)), wpAny (model X.prog X.w) X.A (call (.ref (G.fa q)) [.ref a, u]) (PySem.W.CmpBack (EP X pins σ Q)) X.xe s := fun h =>
      wpAny_mono (wpAny_call (N.call (us := [.ref a, u]) (vs := [.ref a, y]) hr N.gd I.env0 I (.cons rfl (.cons ry .nil)) hL w (.two_ r1 r2) h)) (fun w s' z => back_S z) fun _ _ x => x
    refine iop_own I.kIn J M2 I2.2 hobj ?_
    split at h
    · rename_i c' ht
      split at h
      · rename_i hc
        subst hc
        have ty := ty_at N w r2 ht (fun _ z => nomatch z)
        obtain ⟨P, kx, hp, _⟩ := kit_of I ry ty
        exact bin1_K I.kIn J (kx.ty _ _ I.kIn hp) IO.sf M.at_ M.fn (go h)
      · rename_i hcc
        split at h
        · rename_i hsd
          have ty := ty_at N w r2 ht (fun _ z => nomatch z)
          obtain ⟨P, kx, hp, _⟩ := kit_of I ry ty
          exact bin1_side N I.kIn J (kx.ty _ _ I.kIn hp) IO M hsd.1 hsd.2 (go h)
        · exact False.elim h
    · rename_i t ht
      split at h
      · rename_i hb
        have ty := ty_at N w r2 ht (fun _ z => nomatch z)
        obtain ⟨P, kx, hp, _⟩ := kit_of I ry ty
        obtain ⟨fr, hfr⟩ := fills_ty hb op.info.2
        obtain ⟨zl, hzl⟩ := look_ty hb (PySem.dunderR op.info.2)
        split at h
        · rename_i q' hk
          have K := N.kd c (PySem.dunderR op.info.2)
          rw [hk] at K
          exact bin1_left I.kIn J (kx.ty _ _ I.kIn hp) IO.sf M.at_ M.fn K.2.at_ (fun id z => nomatch z) hfr (sub_bi hb) hzl (go h)
        · rename_i hk
          have K := N.kd c (PySem.dunderR op.info.2)
          rw [hk] at K
          exact bin1_left I.kIn J (kx.ty _ _ I.kIn hp) IO.sf M.at_ M.fn K.2 (fun id z => nomatch z) hfr (sub_bi hb) hzl (go h)
        · exact False.elim h
      · exact False.elim h
    · exact False.elim h
  · exact False.elim h
def iAddA (T : Tb) : D → D → MM D := orM iAdd (mIBin T .Add)
def iSubA (T : Tb) : D → D → MM D := orM iSub (mIBin T .Sub)
def iMulA (T : Tb) : D → D → MM D := mIBin T .Mult
def iDivA (T : Tb) : D → D → MM D := mIBin T .FloorDiv
def iModA (T : Tb) : D → D → MM D := mIBin T .Mod
def iAndA (T : Tb) : D → D → MM D := mIBin T .BitAnd
def iOrA (T : Tb) : D → D → MM D := mIBin T .BitOr
theorem s_iadd0 : OpS G X Wx (inplaceOp .Add) iAdd := opS_of iop_add fun σ H x y Q L W st d1 d2 w r1 r2 q => by
  unfold iAdd at q
  split at q
  · cases rep_int r1
    cases rep_int r2
    exact ⟨_, _, rfl, rfl, q.same w (.int _)⟩
  · exact False.elim q
theorem s_isub0 : OpS G X Wx (inplaceOp .Sub) iSub := opS_of iop_sub fun σ H x y Q L W st d1 d2 w r1 r2 q => by
  unfold iSub at q
  split at q
  · cases rep_int r1
    cases rep_int r2
    exact ⟨_, _, rfl, rfl, q.same w (.int _)⟩
  · exact False.elim q
theorem s_iAddA (N : En G X Wx k T) : OpS G X Wx (inplaceOp .Add) (iAddA T) := s_iadd0.or (s_iBin N (by kernel_rfl))
theorem s_iSubA (N : En G X Wx k T) : OpS G X Wx (inplaceOp .Sub) (iSubA T) := s_isub0.or (s_iBin N (by kernel_rfl))
theorem s_iMulA (N : En G X Wx k T) : OpS G X Wx (inplaceOp .Mult) (iMulA T) := s_iBin N (by kernel_rfl)
theorem s_iDivA (N : En G X Wx k T) : OpS G X Wx (inplaceOp .FloorDiv) (iDivA T) := s_iBin N (by kernel_rfl)
theorem s_iModA (N : En G X Wx k T) : OpS G X Wx (inplaceOp .Mod) (iModA T) := s_iBin N (by kernel_rfl)
theorem s_iAndA (N : En G X Wx k T) : OpS G X Wx (inplaceOp .BitAnd) (iAndA T) := s_iBin N (by kernel_rfl)
theorem s_iOrA (N : En G X Wx k T) : OpS G X Wx (inplaceOp .BitOr) (iOrA T) := s_iBin N (by kernel_rfl)
theorem post1 {α β : Type} {rel : Wd → Hp → β → α → Prop} {n : Nat} {W : Wd} {H : Hp} {sto : Sto} {σ : L2.St} {sl : Sl} {Z : Ends} {r : Res α} {f : α → Sto → SR} (hl : n ≤ W.mu.length) (rs : RepS G W H σ sl) (h : postS G X Wx n W H Z (toS r sl f)) :
    post G (LX X sl.lk σ) rel Wx σ W H (fun v H1 => ∃ W1 st1 d, n ≤ W1.mu.length ∧ ExtE W H W1 H1 ∧ WOk G (LX X sl.lk σ) W1 H1 st1 ∧ RepS G W1 H1 σ sl ∧ rel W1 H1 v d ∧ postS G X Wx n W1 H1 Z (f d st1)) r := by
  revert h
  cases r with
  | bad => exact fun z => z
  | exc e s => exact fun h c dd H' W' e w r => h c dd σ H' W' (Ext.mono e hl) w (rs.see e.sees) r
  | ok d s => exact fun h v H1 W1 e w r => ⟨W1, s, d, Nat.le_trans hl e.len, e, w, rs.see e.sees, r, h.after (Ext.mono e hl) hl⟩
def sAug (i : Nat) (f : D → D → MM D) (me : EE) : SS := fun _ sl st => match sl.v[i]? with
  | some (some d1) => toS (me sl st) sl fun d2 st => toS (f d1 d2 st) sl fun d st => .nx (sl.set i d) st
  | _ => .bad
theorem ev_aug {i : Nat} {x : Str} {e : Expr} {me : EE} {op : Operator} {f : D → D → MM D} {pos pos' : Pos} (hN : X.N.Nodup) (hi : X.N[i]? = some x) (hx : Loc X.env.scope x) (ho : OpS G X Wx (inplaceOp op) f) (he : EvE G X Wx e me)
    (hf : X.fn x = true ∨ X.env.scope.names.lookup x = some .local := by first | exact .inl rfl | exact .inr rfl | assumption) : EvS G X Wx (.AugAssign (.Name x pos') op e pos) (sAug i f me) := by
  refine ⟨fun pins s σ H Z I ⟨n, W, sto, sl, hl, w, rs, h⟩ => ?_⟩
  unfold sAug at h
  cases hd : sl.v[i]? with
  | none => rw [hd] at h; exact False.elim h
  | some od =>
  cases od with
  | none => rw [hd] at h; exact False.elim h
  | some d1 =>
  rw [hd] at h
  dsimp only at h
  obtain ⟨v, e1, rv⟩ := rs.at_ i d1 hd
  obtain ⟨m, hn, hlk⟩ := I.loc
  have vis : Vis X.env.scope x := by rcases hx with k | k; exact .inl k; exact .inr (.inl k)
  obtain ⟨u, r, l⟩ := hlk i x v hi e1 vis
  refine wpAny_AugAssign_Name ?_
  have go : wpAny (model X.prog X.w) X.A (eval e X.env) (fun w s₂ => wpAny (model X.prog X.w) X.A (inplaceOp op u w) (fun r s₃ => wpAny (model X.prog X.w) X.A (storeName X.env x r) (fun _ => SP X pins Z .next) X.xe s₃) X.xe s₂) X.xe s := by
    refine thn (he.run pins s σ H _ I (oneS (rel := Rep G) hl w rs h)) fun w' s1 ⟨y, H1, I1, r1, W1, st1, d2, hl1, e1', w1, rs1, rr, _, q⟩ => ?_
    refine thn (ho pins s1 σ H1 v y u w' _ _ W1 st1 d1 d2 I1 r r1 (lok_of rs1) w1 (rv.see e1'.sees) rr (post1 (rel := Rep G) (sto := st1) hl1 rs1 q)) fun z s2 ⟨zv, H2, I2, r2, W2, st2, d, hl2, e2, w2, rs2, rd, q2⟩ => ?_
    exact store_ok I2 hN hi hx r2 (fun s3 I3 => ⟨_, H2, I3, q2 _ H2 W2 Ext.refl (show WOk G (LX X sl.lk (σ.set i (some zv))) W2 H2 st2 from w2.sig rs2) (rs2.set rd)⟩) hf
  rcases l with ⟨hk, hm⟩ | ⟨hk, c, hc, hcell⟩
  · exact wpAny_loadName_local I.ok.kind hk hn hm go
  · rcases hk with hk | hk
    · exact wpAny_loadName_cell I.ok.kind hk hc hcell go
    · rcases hx with k | k
      · have : X.env.scope.names.lookup x = some .free := hk
        rw [k] at this; cases this
      · have : X.env.scope.names.lookup x = some .free := hk
        rw [k] at this; cases this
/-! max, min of two ints -/
def b_max (T : Tb) (ds : List D) : MM D := fun st => match ds with
  | [.int i, .int j] => .ok (.int (if j > i then j else i)) st
  | _ => .bad
def b_min (T : Tb) (ds : List D) : MM D := fun st => match ds with
  | [.int i, .int j] => .ok (.int (if j < i then j else i)) st
  | _ => .bad
theorem c_max (N : En G X Wx k T) : CallS G X Wx (.builtin "max") (b_max T) := callS_of (call_max2 N.calm) fun σ H xs Q L W sto ds w rl q => by
  unfold b_max at q
  split at q
  · cases rl with
    | cons r rr =>
      cases rr with
      | cons r2 rr =>
        cases rr
        cases rep_int r
        cases rep_int r2
        exact ⟨_, _, rfl, q.same w (.int _)⟩
  · exact False.elim q
theorem c_min (N : En G X Wx k T) : CallS G X Wx (.builtin "min") (b_min T) := callS_of (call_min2 N.calm) fun σ H xs Q L W sto ds w rl q => by
  unfold b_min at q
  split at q
  · cases rl with
    | cons r rr =>
      cases rr with
      | cons r2 rr =>
        cases rr
        cases rep_int r
        cases rep_int r2
        exact ⟨_, _, rfl, q.same w (.int _)⟩
  · exact False.elim q
end
end MP
set_option Elab.async false
set_option linter.all false
set_option maxRecDepth 100000
set_option maxHeartbeats 1000000
namespace MP
open PySem PySem.Spec PyProof.Rows L2 SP
/-! ### xs[::-1] -/
def mRev (d : D) : MM D := fun st => match seqOf d st with
  | some xs => .ok (.lst xs.reverse) st
  | none => .bad
section
variable {G : Gc} {X : Cx} {Wx : WX} {k : Nat} {T : Tb}
theorem RepL.rev {W : Wd} {H : Hp} : ∀ {vs : List V} {ds : List D}, RepL G W H vs ds → RepL G W H vs.reverse ds.reverse
  | _, _, .nil => .nil
  | _, _, .cons h r => by
    rw [List.reverse_cons, List.reverse_cons]
    exact (RepL.rev r).app (.cons h .nil)
theorem ev_rev {e : Expr} {me : EE} {kk : Nat} {p1 p2 p3 pos : Pos} (N : En G X Wx k T) (he : EvE G X Wx e me) : EvE G X Wx (.Subscript e (.Slice none none (some (.UnaryOp .USub (.Constant (.int 1) kk p1) p2)) p3) pos) (eUn mRev me) :=
  PE.imp (pe_revL he) fun σ H Q ⟨W, sto, sl, w, rs, h⟩ => tG_imp (one (rel' := Rep G) w rs h) fun x H1 ⟨W1, st1, d, e1, w1, rs1, rr, _, h1⟩ => by
    unfold mRev at h1
    split at h1
    · rename_i xs hx
      obtain ⟨a, vs, rfl, ha, rl⟩ := seq_at w1 rr hx
      exact ⟨a, vs, rfl, SqL.of ha, new_lst w1 rl.rev h1⟩
    · exact False.elim h1
end
end MP
set_option Elab.async false
set_option linter.all false
set_option maxRecDepth 100000
set_option maxHeartbeats 2000000
namespace MP
open PySem PySem.Spec PyProof.Rows L2 SP
/-! ### a comprehension whose tests know the frame that it stands in -/
section
variable {X : Cx}
/-- a test within a block that knows its frame -/
def TestIn (X : Cx) (scope : Scope) (vs : List Nat) (ifs : List Expr) (tt : TT) : Prop :=
  ∀ (pins : List (Addr × Obj)) (σ : L2.St) (s : Shared) (H : Hp) (C : Addr) (cl : List (Str × Addr)) (fp : List Addr), Inv X pins σ H s → (∀ b ∈ fp, FpOk X pins H b) → PTs (X.blk s H scope (compEnvC scope cl C X.env) fp) ifs fun σ' H' Q => wipe σ' vs = wipe σ vs ∧ tt σ' H' Q
theorem pe_lcI {elt tg iter : Expr} {ifs : List Expr} {scope : Scope} {own : List (Str × Nat)} {pos : Pos} {wi : TI} {g : TG} {tt : TT} {te : TE} (hc : X.calm = true) (hN : X.N.Nodup) (hi : PI X tg iter wi) (ok : BlkOk X.N X.env.scope scope own)
    (hg : ∀ (s : Shared) (H : Hp) (C : Addr) (cl : List (Str × Addr)) (fp : List Addr), PG (X.blk s H scope (compEnvC scope cl C X.env) fp) tg g)
    (ht : TestIn X scope (own.map (·.2)) ifs tt)
    (he : ∀ (s : Shared) (H : Hp) (C : Addr) (cl : List (Str × Addr)) (fp : List Addr), PE (X.blk s H scope (compEnvC scope cl C X.env) fp) elt te) (hs : ∀ x, foldedSetIterable iter X.env x = pure x := by intro _; rfl) :
    PE X (.ListComp elt [⟨tg, iter, ifs, 0⟩] scope pos) (tLc wi g tt te (own.map (·.2))) := by
  refine ⟨fun pins s σ H Q I h => ?_⟩
  have cells : ∀ y ∈ scope.names, y.2 = .free → ∃ c, X.env.cells.lookup y.1 = some c := fun y hy e => (ok.free y hy e).elim (fun k => I.ok.has _ (.inl k)) fun k => I.ok.has _ (.inr k)
  rw [eval_ListComp]
  refine wpAny_comprehension_free (use := none) rfl hs (closure_ok cells) ok.kind (fun y hy e => by rw [ok.uniq y hy, e]) ?_
  refine thn (hi.run pins s σ H _ I h) fun xv s1 hx => thn hx fun itv s2 ⟨it, fp, tn, J, H2, hit, I2, TT_, n2, f2, q⟩ => ?_
  subst hit
  refine wpAny_newObj_type (newEnv_comp ?_) (by show 0 ≤ sizeLine; decide)
  generalize hL : s2.heap.objs.size = L
  have free2 : H2 L = none := I2.hok.fresh (Nat.le_of_eq hL)
  obtain ⟨W, ⟨m0, w0⟩, turn⟩ := q L free2
  -- the block's beginning: s3, the new list at L
  generalize hs3 : ({ s2 with heap := s2.heap.push { cls := .type "list", data := .seq ([] : List Value).toArray } } : Shared) = s3
  have heap3 : s3.heap = s2.heap.push { cls := .type "list", data := .seq ([] : List Value).toArray } := by rw [← hs3]
  have I3 : Inv X pins σ (upd H2 L (.lst [])) s3 := by
    rw [← hs3]
    refine I2.laid (t' := s2.toks) (fun b o e => Heap.get?_push_of_some _ e) (Nat.le_of_eq hL) ⟨Nat.zero_le _, [], 0, .nil, ?_⟩
    rw [← hL]; exact Heap.get?_push_size _ rfl
  have fp3 : ∀ b ∈ fp, FpOk X pins (upd H2 L (.lst [])) b ∧ b < s3.heap.objs.size := fun b hb => by
    obtain ⟨o, e, _⟩ := TT_.obj _ _ n2 b hb
    have lt := Heap.lt_size e
    refine ⟨⟨by rw [upd_ne (by rw [← hL]; exact Nat.ne_of_lt lt)]; exact (f2 b hb).1, (f2 b hb).2⟩, by rw [heap3, Heap.size_push]; exact Nat.lt_succ_of_lt lt⟩
  obtain ⟨H3, hH3⟩ : ∃ H3, upd H2 L (.lst []) = H3 := ⟨_, rfl⟩
  rw [hH3] at I3 fp3 w0
  obtain ⟨s4, hs4⟩ : ∃ s4 : Shared, ({ s3 with heap := pushCells (s3.heap.push { cls := .type "dict", data := .dict #[] }) scope.names } : Shared) = s4 := ⟨_, rfl⟩
  have I4 := block_start I3 ok hN fp3
  obtain ⟨cl, hcl⟩ : ∃ cl, cellsFrom (s3.heap.objs.size + 1) scope.names (cloFrom X.env.cells scope.names []) = cl := ⟨_, rfl⟩
  rw [hcl, hs4] at I4
  have pG := hg s3 H3 s3.heap.objs.size cl fp
  have pT := ht pins σ s3 H3 s3.heap.objs.size cl fp I3 fun b hb => (fp3 b hb).1
  have pE := he s3 H3 s3.heap.objs.size cl fp
  have n4 : tn 0 s4.heap := TT_.keep _ _ _ n2 fun b _ o e => by
    rw [← hs4]
    exact pushCells_keeps _ _ _ _ (Heap.get?_push_of_some _ (by rw [heap3]; exact Heap.get?_push_of_some _ e))
  show codeAny _ _ (.compStart (.ListComp elt [⟨tg, iter, ifs, 0⟩] scope pos) 0 (.ref it) (.ref L) (compEnvC scope (cellsFrom (s3.heap.objs.size + 1) scope.names (cloFrom X.env.cells scope.names [])) s3.heap.objs.size X.env)) (compPost (model X.prog X.w) X.A X.xe none _ (.ref L) s3.heap.objs.size) { s3 with heap := pushCells (s3.heap.push { cls := .type "dict", data := .dict #[] }) scope.names }
  rw [hcl, hs4]
  obtain ⟨ce, hce⟩ : ∃ ce, compEnvC scope cl s3.heap.objs.size X.env = ce := ⟨_, rfl⟩
  rw [hce] at I4 pG pT pE ⊢
  have loc : ce.locals = s3.heap.objs.size := by rw [← hce]; rfl
  have fpB : ∀ {σ' : L2.St} {H' : Hp} {s' : Shared}, Inv (X.blk s3 H3 scope ce fp) [] σ' H' s' → (∀ b ∈ fp, H' b = none) → ∀ b ∈ fp, FpOk (X.blk s3 H3 scope ce fp) [] H' b := fun J hn b hb =>
    ⟨hn b hb, (J.ok.exf b hb).1, J.ok.exfs b hb, .inl hb, (J.ok.exf b hb).2, fun p hp => nomatch (show p ∈ ([] : List (Addr × Obj)) ++ [] from hp)⟩
  let Go : Nat → Shared → Prop := fun n s' => ∃ i H', Inv (X.blk s3 H3 scope ce fp) [] (wipe σ (own.map (·.2))) H' s' ∧ tn i s'.heap ∧ (∀ b ∈ fp, H' b = none) ∧ W i n H'
  suffices loop : codeAny (model X.prog X.w) X.A (.compLoop (.ListComp elt [⟨tg, iter, ifs, 0⟩] scope pos) 0 (.ref it) (.ref L) ce) (compPost (model X.prog X.w) X.A X.xe none (EP X pins σ Q) (.ref L) s3.heap.objs.size) s4 from codeAny_compStart_list loop (TT_.self X.A 0 _ _ _ n4 loop)
  refine compLoop_any Go ?_ m0 ⟨0, H3, I4, n4, fun b hb => (fp3 b hb).1.1, w0⟩
  rintro n s5 ⟨i, H5, I5, n5, z5, w5⟩
  rcases turn i n H5 w5 with ⟨stop, qq⟩ | ⟨go, Nx, hNx, step⟩
  · -- no more
    refine thnF (TT_.done (X.blk s3 H3 scope ce fp) rfl rfl rfl hc i [] s5 _ H5 (fun _ _ => False) I5 (fpB I5 z5) n5 stop) fun r s6 ⟨hr, I6⟩ => ?_
    subst hr
    have I7 : Inv X pins σ H5 s6 := I3.call' (ch := fp) I6.os I6.base I6.hok I6.bare fun b hb => by
      obtain ⟨_, k1, k2, k3, k4, k5⟩ := (fp3 b hb).1
      exact ⟨k3, k1, k4, k5⟩
    have nC : H5 s3.heap.objs.size = none := by rw [← loc]; exact I6.free
    obtain ⟨m, hn, _⟩ := I6.loc
    obtain ⟨k0, k1, k2, k3, k4, k5⟩ := I3.fpOk (Nat.le_refl _) nC
    exact ⟨m, by rw [← loc]; exact hn, fun h'' sb => ⟨.ref L, H5, I7.turned (t' := s6.toks) (fun b o hb e => (sb.2 b hb).trans e) k0 k1 k3 k4 k5, rfl, qq⟩⟩
  · -- a turn
    refine thnF (TT_.item (X.blk s3 H3 scope ce fp) rfl rfl rfl hc i [] s5 _ H5 (fun _ _ => False) I5 (fpB I5 z5) n5 go) fun r s6 ⟨u, hr, h6⟩ => ?_
    subst hr
    refine thnF h6 fun _ s7 ⟨x, H7, I7, r7, y7, n7, z7⟩ => ?_
    have I7' := I7.pinned (fpB I7 z7) (TT_.obj _ _ n7)
    refine thnF (pG.run _ s7 _ H7 x u _ I7' r7 (step x H7 y7)) fun _ s8 ⟨σ8, H8, I8, hw8, q8⟩ => ?_
    have back : ∀ {s' : Shared} {H' : Hp}, Inv (X.blk s3 H3 scope ce fp) ([] ++ pinsAt fp s7.heap) σ8 H' s' → Nx H' → ∃ m, m < n ∧ Go m s' := fun {s' H'} J nx => by
      obtain ⟨m', hm, w'⟩ := hNx H' nx
      have pin : ∀ b ∈ fp, ∀ o, s7.heap.get? b = some o → s'.heap.get? b = some o ∧ H' b = none := fun b hb o e => by
        have z := J.pin (b, o) (List.mem_append_right _ (List.mem_append_right _ (mem_pinsAt hb e)))
        exact ⟨z.1, z.2.1⟩
      refine ⟨m', hm, i + 1, H', (J.unpinned (pins := [])).weak (by rw [← hw8, wipe_length]) (fun j v e => ?_), TT_.keep _ _ _ n7 fun b hb o e => (pin b hb o e).1, fun b hb => ?_, w'⟩
      · rw [← hw8] at e
        exact (wipe_some e).1
      · obtain ⟨o, e, _⟩ := TT_.obj _ _ n7 b hb
        exact (pin b hb o e).2
    refine thnF (pT.run _ s8 σ8 H8 _ I8 ⟨hw8, q8⟩) fun b s9 ⟨H9, I9, q9⟩ => ?_
    cases b with
    | false =>
      rw [if_neg (by decide)] at q9 ⊢
      exact back I9 q9
    | true =>
      rw [if_pos rfl] at q9 ⊢
      refine thnF (pE.run _ s9 σ8 H9 _ I9 q9) fun z s10 ⟨yv, H10, I10, r10, acc, a1, a2, nx⟩ => ?_
      exact app_ok (X := X.blk s3 H3 scope ce fp) I10 a1 a2 r10 fun s11 I11 => back I11 nx
end
open LamX
section
variable {G : Gc} {X : Cx} {Wx : WX} {k : Nat} {T : Tb}
noncomputable def holeSelI (vs : List Nat) (n : Nat) (hb : MM D → SS) (ms : List EE) (sl : Sl) (d : D) : MM D := fun st => match d with
  | .lam id _ => match ms[id]? with
    | some m => eHole n hb m (sl.wipe vs) st
    | none => .bad
  | _ => .bad
noncomputable def eHoleVi (vs : List Nat) (n : Nat) (hb : MM D → SS) (ms : List EE) (me : EE) : EE := fun sl st => (me sl st).bind fun d st => holeSelI vs n hb ms sl d st
/-- the same within a block; the frame's lambdas -/
theorem ev_holeVi {pinsF : List (Addr × Obj)} {σF : L2.St} {sF : Shared} {HF : Hp} {bscope : Scope} {C : Addr} {cl : List (Str × Addr)} {fp : List Addr} {vs : List Nat} {sites : List (Arguments × Expr × Scope)} {ms : List EE} {me : EE} {e : Expr} {x a : Str} {bodyg : List Stmt} {sg : Scope} {Ng : List Str} {hb : MM D → SS} {p pos : Pos} (NF : En G X Wx k T) (M : LamN G X k) (IF : Inv X pinsF σF HF sF) (hfp : ∀ b ∈ fp, FpOk X pinsF HF b) (HD : HolD G x a bodyg sg Ng) (hx : T.glo x = some .fn) (hg : Gl (X.blk sF HF bscope (compEnvC bscope cl C X.env) fp) x)
    (hN : Ng[0]? = some a) (hva : Vis sg a) (hfr : G.x.fr = some ⟨X.env.cells, X.env.qual, sites⟩) (hms : LvAll G X k T sites ms) (hev : EvE G (X.blk sF HF bscope (compEnvC bscope cl C X.env) fp) WF e me)
    (hB : ∀ (e : Gx) (ask : MM D) (cdv : Value) (A : Around) (outer : List Env) (s : Shared) (H : Hp) (E : XK), En { G with x := e } (bx X.prog X.w G X.mg X.base Ng x sg (G.fa x) cdv A outer s H E) (wOf E) k T →
      AskC { G with x := e } (bx X.prog X.w G X.mg X.base Ng x sg (G.fa x) cdv A outer s H E) k T a ask → EvSs { G with x := e } (bx X.prog X.w G X.mg X.base Ng x sg (G.fa x) cdv A outer s H E) (wOf E) bodyg (hb ask))
    (hse : starEach [e] (compEnvC bscope cl C X.env) = (false, eval e (compEnvC bscope cl C X.env)) :: starEach [] (compEnvC bscope cl C X.env) := by rfl) (hdb : (x == ("__debug__" : Str)) = false := by decide) (hd : (a == ("__debug__" : Str)) = false := by decide) (hcd : (a == ("__classdict__" : Str)) = false := by decide) :
    PE (X.blk sF HF bscope (compEnvC bscope cl C X.env) fp) (.Call (.Name x p) [e] [] pos) (fun σ' H' Q => wipe σ' vs = wipe σF vs ∧ tE G (X.blk sF HF bscope (compEnvC bscope cl C X.env) fp) WF (eHoleVi vs Ng.length hb ms me) σ' H' Q) := by
  have N : En G (X.blk sF HF bscope (compEnvC bscope cl C X.env) fp) WF k T := NF.blk
  refine ⟨fun pins s0 σ H0 Q I0 ⟨hw, W0, sto0, sl, w0, rs0, h0⟩ => ?_⟩
  obtain ⟨pg, fd, F, hbn, S⟩ := HD
  obtain ⟨oc, od, dV, kV, doc, pm, an, cdv, ct, osl, rfl, lk, hcg, _, _⟩ := F.ex
  obtain ⟨c, P, hcode, hmem⟩ := M.ex
  obtain ⟨hm, hk⟩ := N.glo x _ hx
  have ef : G.fa x = G.ga x := N.fg x hx
  refine wpAny_Call_Name_kw (ld_glob I0 hg hm ?_ hdb)
  refine PySem.W.callWith_K (h₀ := X.base) I0.ok.mod.kin hk ?_ hse (by rfl)
  rw [hse]
  show wpAny _ _ (spliced ((false, eval e (compEnvC bscope cl C X.env)) :: backTo pos (starEach [] (compEnvC bscope cl C X.env)))) _ _ s0
  refine Calls.spliced_cons (thn (hev.run pins s0 σ H0 _ I0 (one w0 rs0 h0)) fun u s' ⟨v, H1, I1, r, W1, sto, d, e1, w1, rs, rr, _, h1⟩ => ?_)
  refine Calls.spliced_nil ⟨I1.kIn, ?_⟩
  replace h1 : postE G (LX (X.blk sF HF bscope (compEnvC bscope cl C X.env) fp) sl.lk σ) WF σ W1 H1 Q (holeSelI vs Ng.length hb ms sl d sto) := h1
  unfold holeSelI at h1
  obtain ⟨id, m, rfl, hm1, h1⟩ : ∃ id m, d = .lam id [] ∧ ms[id]? = some m ∧ postE G (LX (X.blk sF HF bscope (compEnvC bscope cl C X.env) fp) sl.lk σ) WF σ W1 H1 Q (eHole Ng.length hb m (sl.wipe vs) sto) := by
    cases rr with
    | @lam f c' id fr si q1 q2 q3 q4 q5 q6 =>
      dsimp only at h1
      cases hm1 : ms[id]? with
      | none => rw [hm1] at h1; exact False.elim h1
      | some m => rw [hm1] at h1; exact ⟨id, m, rfl, hm1, h1⟩
    | _ => exact False.elim h1
  replace h1 : postE G (LX (X.blk sF HF bscope (compEnvC bscope cl C X.env) fp) sl.lk σ) WF σ W1 H1 Q (hFn Ng.length (hb fun sto => m ⟨(sl.wipe vs).v, false⟩ sto) sto) := h1
  obtain ⟨si, hsi, LV⟩ := hms id m hm1
  obtain ⟨f, c', fr, si', rfl, q1, q2, q3, q4, q5, q6⟩ : ∃ f c' fr si, v = .ref f ∧ G.x.fr = some fr ∧ fr.sites[id]? = some si ∧ W1.F f ∧ W1.F c' ∧ H1 f = some (LamHO f c' (fr.qual ++ "<lambda>") si.1 si.2.1 si.2.2 (cloFrom fr.cells si.2.2.names [])) ∧ H1 c' = some (CodeO c' (fr.qual ++ "<lambda>")) := by
    cases rr with
    | lam q1 q2 q3 q4 q5 q6 => exact ⟨_, _, _, _, rfl, q1, q2, q3, q4, q5, q6⟩
  rw [hfr] at q1
  cases q1
  rw [hsi] at q2
  cases q2
  obtain ⟨params, body, scope⟩ := si
  obtain ⟨L, hbind, hL⟩ := LV
  obtain rfl : u = Value.ref f := r
  have g1 := w1.gk
  obtain ⟨e0, he⟩ : ∃ e : Gx, e = ⟨G.x.fr, f, (c', X.env.qual ++ "<lambda>") :: G.x.co, (W1, H1) :: G.x.an⟩ := ⟨_, rfl⟩
  have g2 : Gok { G with x := e0 } W1 H1 := by
    subst he
    refine ⟨g1.tb, fun p hp => ?_, fun p hp => ?_⟩
    · rcases List.mem_cons.mp hp with rfl | hp
      · exact q6
      · exact g1.co p hp
    · rcases List.mem_cons.mp hp with rfl | hp
      · exact Sees.refl
      · exact g1.an p hp
  have back : ∀ {W' : Wd} {H' : Hp}, Gok { G with x := e0 } W' H' → Gok G W' H' := fun g => by
    subst he
    exact ⟨g.tb, fun p hp => g.co p (List.mem_cons_of_mem _ hp), fun p hp => g.an p (List.mem_cons_of_mem _ hp)⟩
  have w2 : WOk { G with x := e0 } LN W1 H1 sto := WOk.gc (G := G) (G' := { G with x := e0 }) rfl (by rw [he]) (w1.ln lok_false) g2
  have p2 : postF { G with x := e0 } W1 H1 Q (fun cls dd H' => WF cls dd σ H') (hFn Ng.length (hb fun sto => m ⟨(sl.wipe vs).v, false⟩ sto) sto) := by
    revert h1
    cases hFn Ng.length (hb fun sto => m ⟨(sl.wipe vs).v, false⟩ sto) sto with
    | ok d sto => exact fun h v H' W' e w r => h v H' W' e (WOk.gc (G := { G with x := e0 }) (G' := G) rfl (by rw [he]) w (back w.gk)).nl (Rep.gc (G := { G with x := e0 }) (G' := G) rfl (by rw [he]) r)
    | exc d sto => exact fun h c dd H' W' e w r => h c dd H' W' e (WOk.gc (G := { G with x := e0 }) (G' := G) rfl (by rw [he]) w (back w.gk)).nl (RepX.gc (G := { G with x := e0 }) (G' := G) rfl (by rw [he]) r)
    | bad => exact fun z => z
  have hdep : Room (k + 3 + 1) X.A := M.rm
  have C0 : ∀ E : XK, Ct (bx X.prog X.w G X.mg X.base Ng x sg (G.fa x) cdv X.A X.stack s' H1 E) (wOf E) (k + 3) := fun E => ct_of (hdep.deeper _) N.gd
  have IX : Inv X pinsF σF H1 s' := IF.call' (ch := fp) I1.os I1.base I1.hok I1.bare fun b hb => by
    obtain ⟨_, k1, k2, k3, k4, k5⟩ := hfp b hb
    exact ⟨k3, k1, k4, k5⟩
  have rsF : RepS G W1 H1 σF (sl.wipe vs) := by
    have z := rs.wipe vs
    rw [hw] at z
    exact ⟨by rw [← z.len, wipe_length], fun i d q => by
      obtain ⟨v, a1, a2⟩ := z.at_ i d q
      exact ⟨v, (wipe_some a1).1, a2⟩, fun q => (wipe_some (z.lk q)).1⟩
  have HA := fun E => ask_SV (X := X) (σ := σF) (sl := sl.wipe vs) (e := e0) (x := x) (sg := sg) (Ng := Ng) (g := G.fa x) (cdg := cdv) (E := E) (by rw [he]) (by rw [he]) (by rw [he]; exact List.mem_cons_self) (by rw [he]; exact List.mem_cons_self) IX L q3 q5 hbind rsF (hdep.deeper _) NF.gd NF (fun A outer s H E => hL e0 A outer s H E f c') hN hva hd hcd
  have e1 : Env0 X.prog X.w G.K X.mg X.base X.A X.stack s' H1 := by
    rw [← N.hK]
    exact I1.env0
  have lk' : X.K.lookup (G.ga x) = some ⟨oc, od, .func (PySem.W.fnOf x x pg bodyg sg dV kV doc pm an cdv ct), osl⟩ := by
    rw [N.hK, ← ef]
    exact lk
  have rc : codeAny (model X.prog X.w) X.A (.call (.ref (G.fa x)) ⟨[.ref f], []⟩) (CR (L2.CX X.prog X.w) X.stack X.prog X.w H1 s' Q (fun cls dd H' => WF cls dd σ H')) s' := by
    have En' := fun E : XK => (N.gx e0).at_ (Y := bx X.prog X.w G X.mg X.base Ng x sg (G.fa x) cdv X.A X.stack s' H1 E) (Wy := wOf E) rfl rfl N.hK.symm rfl rfl ⟨(C0 E).tk, (C0 E).rm.mono (by omega), (C0 E).gd, (C0 E).calm, (C0 E).po⟩
    refine run_G (G := { G with x := e0 }) (ps := [a]) (us' := [.ref f]) (vs' := [.ref f]) lk hcg S hdep e1 (hbn s' [.ref f] (by rw [← N.hK]; exact I1.kIn) rfl) (.cons rfl .nil) rfl (hB e0 _ cdv X.A X.stack s' H1 _ (En' _) (HA _)) ⟨sto.length, W1, sto, ⟨List.replicate Ng.length none, true⟩, by rw [w2.len]; exact Nat.le_refl _, w2.nl, ⟨?_, fun i d q => ?_, fun _ => ?_⟩, end_S w2 p2⟩
    · have : 0 < Ng.length := (List.getElem?_eq_some_iff.mp hN).1
      show ([V.ref f].map some ++ List.replicate (Ng.length - [V.ref f].length) none).length = (List.replicate Ng.length (none : Option D)).length
      simp
      omega
    · have q : (List.replicate Ng.length (none : Option D))[i]? = some (some d) := q
      rw [List.getElem?_replicate] at q
      split at q <;> simp at q
    · show (L2.start Ng [V.ref f])[0]? = some (some (V.ref e0.pin))
      rw [he]
      rfl
  rw [ef] at rc
  refine wpAny_call (codeAny_mono rc fun r s2 hq => ?_)
  cases r with
  | error e => exact N.tk _ _ (XE.of_call I1 (fun _ _ _ z => z) hq)
  | ok fl =>
    cases fl with
    | ret u => exact I1.after hq
    | next => exact False.elim hq
    | brk => exact False.elim hq
    | cont => exact False.elim hq
end
section
variable {G : Gc} {X : Cx} {Wx : WX} {k : Nat} {T : Tb} {P : L2.St → Prop} {a b : Expr} {ma mb : EE} {ta : ET} {pos p rp : Pos}
theorem eti_cmp {op : CmpOp} {f : D → D → MM D} (ho : OpS G X Wx (compareOp op) f) (ha : PE X a fun σ H Q => P σ ∧ tE G X Wx ma σ H Q) (hb : EvE G X Wx b mb) (hm : behindInMarks op b = false) : PT X (.Compare a [op] [b] pos) fun σ H Q => P σ ∧ tT G X Wx (tCmpB f ma mb) σ H Q := by
  refine ⟨fun pins s σ H Q I ⟨hp, W, sto, sl, w, rs, h⟩ => ?_⟩
  refine wpAny_isTrue_Compare1 (bin ha hb I ⟨hp, two (f := f) (Q := fun v H1 => ∃ L W1 st1 d, WOk G L W1 H1 st1 ∧ Rep G W1 H1 v d ∧ postT G L Wx σ W1 H1 Q (isB d st1)) w rs (post.imp (post.bind (rel' := Rep G) h) fun v H1 ⟨W1, st1, d, e, w1, r, _, q⟩ => ⟨_, W1, st1, d, w1, r, q⟩)⟩ fun v u s2 x y H2 I2 rx ry ⟨L, W2, st2, d1, d2, hL, w2, r1, r2, q⟩ => ?_) hm
  refine thn (ho _ _ _ _ _ _ _ _ _ _ _ _ _ _ I2 rx ry hL w2 r1 r2 q) fun c s3 ⟨z, H1, I1, rz, L', W1, st1, d, w1, rr, q1⟩ => ?_
  cases d with
  | bl t =>
    cases rep_bl rr
    cases rz
    exact wpAny_truthy_bool ⟨H1, I1, q1.same w1 rfl⟩
  | _ => exact False.elim q1
theorem eti_val {f : D → MM Bool} (ht : TruS G X Wx f) (ha : PE X a fun σ H Q => P σ ∧ tE G X Wx ma σ H Q) (he : ∀ whole, isTrue a X.env whole = (do let v ← whole; standAt a.pos; holding [v] (truthy v)) := by intro _; rfl) : PT X a fun σ H Q => P σ ∧ tT G X Wx (tVal f ma) σ H Q :=
  ⟨fun pins s σ H Q I ⟨hp, W, sto, sl, w, rs, h⟩ => isTrue_plain (thn (ha.run pins s σ H _ I ⟨hp, one w rs h⟩) fun v s1 ⟨x, H1, I1, r1, W1, st1, d1, e1, w1, rs1, rr, _, h1⟩ => ht _ _ _ _ _ _ _ _ _ _ _ I1 r1 (lok_of rs1) w1 rr h1) (he _)⟩
theorem eti_not (ha : PT X a fun σ H Q => P σ ∧ tT G X Wx ta σ H Q) : PT X (.UnaryOp .Not a pos) fun σ H Q => P σ ∧ tT G X Wx (tNotM ta) σ H Q :=
  PT.imp (pt_not ha) fun σ H Q ⟨hp, W, sto, sl, w, rs, h⟩ => ⟨hp, tG_imp (one (rel' := relT) w rs h) fun b H1 ⟨W1, st1, d, e1, w1, rs1, rr, _, h1⟩ => h1.same w1 (by cases rr; rfl)⟩
theorem testIn_of {scope : Scope} {vs : List Nat} {c : Expr} {m : ET} (h : ∀ (pins : List (Addr × Obj)) (σ : L2.St) (s : Shared) (H : Hp) (C : Addr) (cl : List (Str × Addr)) (fp : List Addr), Inv X pins σ H s → (∀ b ∈ fp, FpOk X pins H b) →
    PT (X.blk s H scope (compEnvC scope cl C X.env) fp) c fun σ' H' Q => wipe σ' vs = wipe σ vs ∧ tT G (X.blk s H scope (compEnvC scope cl C X.env) fp) WF m σ' H' Q) : TestIn X scope vs [c] (tT G X WF m) := fun pins σ s H C cl fp I hf =>
  PTs.imp (pts_one (h pins σ s H C cl fp I hf)) fun σ' H' Q ⟨z, q⟩ => ⟨z, tG_cx q⟩
theorem ev_lcI {tg iter elt : Expr} {ifs : List Expr} {scope : Scope} {own : List (Str × Nat)} {mi : EI} {g : TM} {mc : ET} {me : EE} (hc : X.calm = true) (hN : X.N.Nodup) (hi : EvI G X Wx tg iter mi) (ok : BlkOk X.N X.env.scope scope own)
    (hg : ∀ (s : Shared) (H : Hp) (C : Addr) (cl : List (Str × Addr)) (fp : List Addr), EvM G (X.blk s H scope (compEnvC scope cl C X.env) fp) (own.map (·.2)) tg g)
    (ht : TestIn X scope (own.map (·.2)) ifs (tT G X WF mc))
    (he : ∀ (s : Shared) (H : Hp) (C : Addr) (cl : List (Str × Addr)) (fp : List Addr), EvE G (X.blk s H scope (compEnvC scope cl C X.env) fp) WF elt me) (hs : ∀ x, foldedSetIterable iter X.env x = pure x := by intro _; rfl) :
    EvE G X Wx (.ListComp elt [⟨tg, iter, ifs, 0⟩] scope pos) (eLc mi g mc me (own.map (·.2))) :=
  PE.imp (pe_lcI hc hN hi ok hg ht (fun s H C cl fp => PE.imp (he s H C cl fp) fun σ H Q (z : tE G X WF me σ H Q) => tG_cx z) hs) fun σ H Q h => lc_read h
end
end MP
set_option Elab.async false
set_option linter.all false
set_option maxRecDepth 100000
set_option maxHeartbeats 1000000
namespace MP
open PySem PySem.Spec PyProof.Rows L2 SP
def gloL : List (Str × GK) := ([("PaneError", .xc), ("BadNumber", .xc), ("BadText", .xc), ("FIGURES", .str "0123456789"), ("is_integer", .fn), ("is_plain", .fn), ("shared_divisor", .fn), ("Amount", .cls), ("divisor_of", .fn), ("_law_pen", .fn), ("_law_draw", .fn), ("_law_pick", .fn), ("_law_pair", .fn), ("_law_low", .fn), ("_law_made", .fn), ("_law_operand", .fn)] : List (Str × GK)) ++ ([("_law_is", .fn), ("_law_sums_right", .fn), ("_law_parts_right", .fn), ("_law_is_refused", .fn), ("_law_quotients_right", .fn), ("_law_in_place_right", .fn), ("law", .fn), ("ValueError", .free), ("abs", .free), ("all", .free), ("bool", .free), ("dict", .free), ("int", .free), ("isinstance", .free), ("len", .free), ("list", .free)] : List (Str × GK)) ++ ([("range", .free), ("repr", .free), ("str", .free), ("tuple", .free)] : List (Str × GK))
def kindL : List ((Str × Str) × Kd) := ([(("BadNumber", "value"), .xabs), (("BadText", "line"), .xabs), (("BadText", "word"), .xabs), (("Amount", "__iadd__"), .abs), (("Amount", "__isub__"), .abs), (("Amount", "__imul__"), .abs), (("Amount", "__ifloordiv__"), .abs), (("Amount", "__imod__"), .abs), (("Amount", "__iand__"), .abs), (("Amount", "__ior__"), .abs), (("Amount", "__init__"), .fn "Amount.__init__"), (("Amount", "__add__"), .fn "Amount.__add__"), (("Amount", "__radd__"), .fn "Amount.__radd__"), (("Amount", "__sub__"), .fn "Amount.__sub__"), (("Amount", "__rsub__"), .fn "Amount.__rsub__"), (("Amount", "__mul__"), .fn "Amount.__mul__")] : List ((Str × Str) × Kd)) ++ ([(("Amount", "__rmul__"), .fn "Amount.__rmul__"), (("Amount", "__floordiv__"), .fn "Amount.__floordiv__"), (("Amount", "__rfloordiv__"), .fn "Amount.__rfloordiv__"), (("Amount", "__mod__"), .fn "Amount.__mod__"), (("Amount", "__rmod__"), .fn "Amount.__rmod__"), (("Amount", "__and__"), .abs), (("Amount", "__rand__"), .abs), (("Amount", "__or__"), .abs), (("Amount", "__ror__"), .abs), (("Amount", "__neg__"), .fn "Amount.__neg__"), (("Amount", "__abs__"), .fn "Amount.__abs__"), (("Amount", "__bool__"), .fn "Amount.__bool__"), (("Amount", "__eq__"), .fn "Amount.__eq__"), (("Amount", "__lt__"), .fn "Amount.__lt__"), (("Amount", "__le__"), .fn "Amount.__le__"), (("Amount", "__gt__"), .fn "Amount.__gt__")] : List ((Str × Str) × Kd)) ++ ([(("Amount", "__ge__"), .fn "Amount.__ge__"), (("Amount", "__str__"), .fn "Amount.__str__"), (("Amount", "bottom"), .abs), (("Amount", "is_number"), .stat "Amount.is_number"), (("Amount", "of"), .stat "Amount.of"), (("Amount", "per"), .fn "Amount.per"), (("Amount", "top"), .abs), (("Amount", "$mro"), .m2)] : List ((Str × Str) × Kd))
def instL : List Str := (["Amount"] : List Str)
def xclL : List Str := (["PaneError", "BadNumber", "BadText"] : List Str)
def mroL : List (Str × List Str) := ([("PaneError", ["PaneError"]), ("BadNumber", ["BadNumber", "PaneError"]), ("BadText", ["BadText", "PaneError"]), ("Amount", ["Amount"])] : List (Str × List Str))
def xflL : List (Str × List Str) := ([("BadNumber", ["value"]), ("BadText", ["line", "word"])] : List (Str × List Str))
def testL : List Str := ["Amount", "BadNumber"]
def testB : List String := ["bool", "dict", "int", "list", "str", "tuple"]
def kwL : List ((Str × Nat × List Str) × List Nat) := [(("Amount.__init__", 1, ["bottom", "top"]), [0, 2, 1]), (("Amount.per", 1, ["number"]), [0, 1])]
/-! the mirrors -/
noncomputable def hb_law_is_refused (T : Tb) (ask : MM D) : SS := sSeq (sSet 1 (eC .non)) (sSeq (sTry T "PaneError" 2 (sExpr (eAsk ask)) (sSet 1 (eVar 2))) (sRetF (eAnd (eCallD (b_isinstance T) (aCons (eVar 1) (aCons (eC (.glo "BadNumber")) aNil))) (eAnd (eOp (cEq T) (eUn (mAttr T "value") (eVar 1)) (eC (.int 0))) (eNot (eCallD (b_isinstance T) (aCons (eUn (mAttr T "value") (eVar 1)) (aCons (eC (.ty "bool")) aNil))))))))
noncomputable def b_is_integer (T : Tb) : SS := sRetF (eAnd (eCallD (b_isinstance T) (aCons (eVar 0) (aCons (eC (.ty "int")) aNil))) (eNot (eCallD (b_isinstance T) (aCons (eVar 0) (aCons (eC (.ty "bool")) aNil)))))
abbrev n_is_integer : List Str := ["value"]
noncomputable def b_is_plain (T : Tb) : SS := sRetF (eOr (eOp (cIs T) (eVar 0) (eC .non)) (eCallD (b_isinstance T) (aCons (eVar 0) (aCons (eCallD mkTup (aCons (eC (.ty "bool")) (aCons (eC (.ty "int")) (aCons (eC (.ty "str")) (aCons (eC (.ty "list")) (aCons (eC (.ty "tuple")) (aCons (eC (.ty "dict")) aNil))))))) aNil))))
abbrev n_is_plain : List Str := ["value"]
noncomputable def b_shared_divisor (T : Tb) : SS := sSeq (sWhileF (tCmpB (cNe T) (eVar 1) (eC (.int 0))) (sPar 0 1 (aCons (eVar 1) (aCons (eOp (bMod T) (eVar 0) (eVar 1)) aNil))) FU) (sRetF (eVar 0))
abbrev n_shared_divisor : List Str := ["one", "other"]
noncomputable def b_Amount_init (T : Tb) : SS := sSeq (sIf (tNotM (tVal (truM T) (eCallD (T.run "is_integer") (aCons (eVar 1) aNil)))) (sRaise "BadNumber" ["value"] (aCons (eVar 1) aNil)) sNil) (sSeq (sIf (tOrM (tNotM (tVal (truM T) (eCallD (T.run "is_integer") (aCons (eVar 2) aNil)))) (tCmpB (cEq T) (eVar 2) (eC (.int 0)))) (sRaise "BadNumber" ["value"] (aCons (eVar 2) aNil)) sNil) (sSeq (sSet 3 (eCallD (T.run "shared_divisor") (aCons (eCallD (b_abs T) (aCons (eVar 1) aNil)) (aCons (eCallD (b_abs T) (aCons (eVar 2) aNil)) aNil)))) (sSeq (sIf (tCmpB (cLt T) (eVar 2) (eC (.int 0))) (sSet 3 (eUn (uNeg T) (eVar 3))) sNil) (sSeq (sFldM T "top" (eVar 0) (eOp (bDiv T) (eVar 1) (eVar 3))) (sFldM T "bottom" (eVar 0) (eOp (bDiv T) (eVar 2) (eVar 3)))))))
abbrev n_Amount_init : List Str := ["self", "top", "bottom", "divisor"]
noncomputable def b_Amount_is_number (T : Tb) : SS := sRetF (eOr (eCallD (b_isinstance T) (aCons (eVar 0) (aCons (eC (.glo "Amount")) aNil))) (eCallD (T.run "is_integer") (aCons (eVar 0) aNil)))
abbrev n_Amount_is_number : List Str := ["value"]
noncomputable def b_Amount_of (T : Tb) : SS := sSeq (sIf (tVal (truM T) (eCallD (b_isinstance T) (aCons (eVar 0) (aCons (eC (.glo "Amount")) aNil)))) (sRetF (eVar 0)) sNil) (sSeq (sIf (tNotM (tVal (truM T) (eCallD (T.run "is_integer") (aCons (eVar 0) aNil)))) (sRaise "BadNumber" ["value"] (aCons (eVar 0) aNil)) sNil) (sRetF (eCallD (mkI T "Amount") (aCons (eVar 0) aNil))))
abbrev n_Amount_of : List Str := ["number"]
noncomputable def b_Amount_per (T : Tb) : SS := sSeq (sSet 2 (eMeth T "of" (eC (.glo "Amount")) (aCons (eVar 1) aNil))) (sSeq (sIf (tCmpB (cEq T) (eUn (mAttr T "top") (eVar 2)) (eC (.int 0))) (sRaise "BadNumber" ["value"] (aCons (eVar 1) aNil)) sNil) (sRetF (eCallD (mkI T "Amount") (aCons (eOp (bMul T) (eUn (mAttr T "top") (eVar 0)) (eUn (mAttr T "bottom") (eVar 2))) (aCons (eOp (bMul T) (eUn (mAttr T "bottom") (eVar 0)) (eUn (mAttr T "top") (eVar 2))) aNil)))))
abbrev n_Amount_per : List Str := ["self", "number", "divisor"]
noncomputable def b_Amount_add (T : Tb) : SS := sSeq (sIf (tAndM (tNotM (tVal (truM T) (eMeth T "is_number" (eC (.glo "Amount")) (aCons (eVar 1) aNil)))) (tNotM (tVal (truM T) (eCallD (T.run "is_plain") (aCons (eVar 1) aNil))))) (sRetF eBad) sNil) (sSeq (sSet 2 (eMeth T "of" (eC (.glo "Amount")) (aCons (eVar 1) aNil))) (sRetF (eCallD (mkI T "Amount") (aCons (eOp (bAdd T) (eOp (bMul T) (eUn (mAttr T "top") (eVar 0)) (eUn (mAttr T "bottom") (eVar 2))) (eOp (bMul T) (eUn (mAttr T "top") (eVar 2)) (eUn (mAttr T "bottom") (eVar 0)))) (aCons (eOp (bMul T) (eUn (mAttr T "bottom") (eVar 0)) (eUn (mAttr T "bottom") (eVar 2))) aNil)))))
abbrev n_Amount_add : List Str := ["self", "other", "right"]
noncomputable def b_Amount_radd (T : Tb) : SS := sRetF (eOp (bAdd T) (eVar 0) (eVar 1))
abbrev n_Amount_radd : List Str := ["self", "other"]
noncomputable def b_Amount_sub (T : Tb) : SS := sSeq (sIf (tAndM (tNotM (tVal (truM T) (eMeth T "is_number" (eC (.glo "Amount")) (aCons (eVar 1) aNil)))) (tNotM (tVal (truM T) (eCallD (T.run "is_plain") (aCons (eVar 1) aNil))))) (sRetF eBad) sNil) (sSeq (sSet 2 (eMeth T "of" (eC (.glo "Amount")) (aCons (eVar 1) aNil))) (sRetF (eCallD (mkI T "Amount") (aCons (eOp (bSub T) (eOp (bMul T) (eUn (mAttr T "top") (eVar 0)) (eUn (mAttr T "bottom") (eVar 2))) (eOp (bMul T) (eUn (mAttr T "top") (eVar 2)) (eUn (mAttr T "bottom") (eVar 0)))) (aCons (eOp (bMul T) (eUn (mAttr T "bottom") (eVar 0)) (eUn (mAttr T "bottom") (eVar 2))) aNil)))))
abbrev n_Amount_sub : List Str := ["self", "other", "right"]
noncomputable def b_Amount_rsub (T : Tb) : SS := sRetF (eOp (bAdd T) (eUn (uNeg T) (eVar 0)) (eVar 1))
abbrev n_Amount_rsub : List Str := ["self", "other"]
noncomputable def b_Amount_mul (T : Tb) : SS := sSeq (sIf (tAndM (tNotM (tVal (truM T) (eMeth T "is_number" (eC (.glo "Amount")) (aCons (eVar 1) aNil)))) (tNotM (tVal (truM T) (eCallD (T.run "is_plain") (aCons (eVar 1) aNil))))) (sRetF eBad) sNil) (sSeq (sSet 2 (eMeth T "of" (eC (.glo "Amount")) (aCons (eVar 1) aNil))) (sRetF (eCallD (mkI T "Amount") (aCons (eOp (bMul T) (eUn (mAttr T "top") (eVar 0)) (eUn (mAttr T "top") (eVar 2))) (aCons (eOp (bMul T) (eUn (mAttr T "bottom") (eVar 0)) (eUn (mAttr T "bottom") (eVar 2))) aNil)))))
abbrev n_Amount_mul : List Str := ["self", "other", "right"]
noncomputable def b_Amount_rmul (T : Tb) : SS := sRetF (eOp (bMul T) (eVar 0) (eVar 1))
abbrev n_Amount_rmul : List Str := ["self", "other"]
noncomputable def b_Amount_floordiv (T : Tb) : SS := sSeq (sSet 2 (eMeth T "per" (eVar 0) (aCons (eVar 1) aNil))) (sRetF (eOp (bDiv T) (eUn (mAttr T "top") (eVar 2)) (eUn (mAttr T "bottom") (eVar 2))))
abbrev n_Amount_floordiv : List Str := ["self", "other", "quotient"]
noncomputable def b_Amount_rfloordiv (T : Tb) : SS := sRetF (eOp (bDiv T) (eMeth T "of" (eC (.glo "Amount")) (aCons (eVar 1) aNil)) (eCallD (T.run "divisor_of") (aCons (eVar 0) aNil)))
abbrev n_Amount_rfloordiv : List Str := ["self", "other"]
noncomputable def b_Amount_mod (T : Tb) : SS := sRetF (eOp (bSub T) (eVar 0) (eOp (bMul T) (eMeth T "of" (eC (.glo "Amount")) (aCons (eVar 1) aNil)) (eOp (bDiv T) (eVar 0) (eVar 1))))
abbrev n_Amount_mod : List Str := ["self", "other"]
noncomputable def b_Amount_rmod (T : Tb) : SS := sRetF (eOp (bMod T) (eMeth T "of" (eC (.glo "Amount")) (aCons (eVar 1) aNil)) (eCallD (T.run "divisor_of") (aCons (eVar 0) aNil)))
abbrev n_Amount_rmod : List Str := ["self", "other"]
noncomputable def b_Amount_neg (T : Tb) : SS := sRetF (eCallD (mkI T "Amount") (aCons (eUn (uNeg T) (eUn (mAttr T "top") (eVar 0))) (aCons (eUn (mAttr T "bottom") (eVar 0)) aNil)))
abbrev n_Amount_neg : List Str := ["self"]
noncomputable def b_Amount_abs (T : Tb) : SS := sRetF (eCallD (mkI T "Amount") (aCons (eCallD (b_abs T) (aCons (eUn (mAttr T "top") (eVar 0)) aNil)) (aCons (eUn (mAttr T "bottom") (eVar 0)) aNil)))
abbrev n_Amount_abs : List Str := ["self"]
noncomputable def b_Amount_bool (T : Tb) : SS := sRetF (eCallD (b_bool T) (aCons (eUn (mAttr T "top") (eVar 0)) aNil))
abbrev n_Amount_bool : List Str := ["self"]
noncomputable def b_Amount_eq (T : Tb) : SS := sSeq (sIf (tVal (truM T) (eCallD (b_isinstance T) (aCons (eVar 1) (aCons (eC (.glo "Amount")) aNil)))) (sRetF (eAnd (eOp (cEq T) (eUn (mAttr T "top") (eVar 0)) (eUn (mAttr T "top") (eVar 1))) (eOp (cEq T) (eUn (mAttr T "bottom") (eVar 0)) (eUn (mAttr T "bottom") (eVar 1))))) sNil) (sRetF (eAnd (eCallD (T.run "is_integer") (aCons (eVar 1) aNil)) (eAnd (eOp (cEq T) (eUn (mAttr T "bottom") (eVar 0)) (eC (.int 1))) (eOp (cEq T) (eUn (mAttr T "top") (eVar 0)) (eVar 1)))))
abbrev n_Amount_eq : List Str := ["self", "other"]
noncomputable def b_Amount_lt (T : Tb) : SS := sSeq (sSet 2 (eMeth T "of" (eC (.glo "Amount")) (aCons (eVar 1) aNil))) (sRetF (eOp (cLt T) (eOp (bMul T) (eUn (mAttr T "top") (eVar 0)) (eUn (mAttr T "bottom") (eVar 2))) (eOp (bMul T) (eUn (mAttr T "top") (eVar 2)) (eUn (mAttr T "bottom") (eVar 0)))))
abbrev n_Amount_lt : List Str := ["self", "other", "right"]
noncomputable def b_Amount_le (T : Tb) : SS := sSeq (sSet 2 (eMeth T "of" (eC (.glo "Amount")) (aCons (eVar 1) aNil))) (sRetF (eOp (cLe T) (eOp (bMul T) (eUn (mAttr T "top") (eVar 0)) (eUn (mAttr T "bottom") (eVar 2))) (eOp (bMul T) (eUn (mAttr T "top") (eVar 2)) (eUn (mAttr T "bottom") (eVar 0)))))
abbrev n_Amount_le : List Str := ["self", "other", "right"]
noncomputable def b_Amount_gt (T : Tb) : SS := sSeq (sSet 2 (eMeth T "of" (eC (.glo "Amount")) (aCons (eVar 1) aNil))) (sRetF (eOp (cGt T) (eOp (bMul T) (eUn (mAttr T "top") (eVar 0)) (eUn (mAttr T "bottom") (eVar 2))) (eOp (bMul T) (eUn (mAttr T "top") (eVar 2)) (eUn (mAttr T "bottom") (eVar 0)))))
abbrev n_Amount_gt : List Str := ["self", "other", "right"]
noncomputable def b_Amount_ge (T : Tb) : SS := sSeq (sSet 2 (eMeth T "of" (eC (.glo "Amount")) (aCons (eVar 1) aNil))) (sRetF (eOp (cGe T) (eOp (bMul T) (eUn (mAttr T "top") (eVar 0)) (eUn (mAttr T "bottom") (eVar 2))) (eOp (bMul T) (eUn (mAttr T "top") (eVar 2)) (eUn (mAttr T "bottom") (eVar 0)))))
abbrev n_Amount_ge : List Str := ["self", "other", "right"]
noncomputable def b_Amount_str (T : Tb) : SS := sSeq (sIf (tCmpB (cEq T) (eUn (mAttr T "bottom") (eVar 0)) (eC (.int 1))) (sRetF (eCallD (b_str T) (aCons (eUn (mAttr T "top") (eVar 0)) aNil))) sNil) (sRetF (eJs [eUn (mFmt T) (eUn (mAttr T "top") (eVar 0)), eC (.str "/"), eUn (mFmt T) (eUn (mAttr T "bottom") (eVar 0))]))
abbrev n_Amount_str : List Str := ["self"]
noncomputable def b_divisor_of (T : Tb) : SS := sSeq (sIf (tCmpB (cEq T) (eUn (mAttr T "top") (eVar 0)) (eC (.int 0))) (sRaise "BadNumber" ["value"] (aCons (eVar 0) aNil)) sNil) (sRetF (eVar 0))
abbrev n_divisor_of : List Str := ["amount"]
noncomputable def b_law_pen (T : Tb) : SS := sRet (eCallD mkLstM (aCons (eCallD (b_list T) (aCons (eSl (eVar 0) oNone (oSome (eC (.int 63)))) aNil)) (aCons (eC (.int 0)) (aCons (eC (.int 0)) aNil))))
abbrev n_law_pen : List Str := ["_law_script"]
noncomputable def b_law_draw (T : Tb) : SS := sSeq (sIf (tCmpB (cGt T) (eOp (dIxT T) (eVar 0) (eC (.int 2))) (eC (.int 0))) (sSeq (sSet 5 (eOp (bMod T) (eCallD (b_int T) (aCons (eOp (dIxT T) (eVar 0) (eC (.int 2))) aNil)) (eVar 1))) (sSeq (sAsg (eOp (bDiv T) (eCallD (b_int T) (aCons (eOp (dIxT T) (eVar 0) (eC (.int 2))) aNil)) (eVar 1)) (gSubM T (eVar 0) (eC (.int 2)))) (sRetF (eVar 5)))) sNil) (sSeq (sSet 2 (eOp (dIxT T) (eVar 0) (eC (.int 1)))) (sSeq (sAsg (eOp (bAdd T) (eVar 2) (eC (.int 1))) (gSubM T (eVar 0) (eC (.int 1)))) (sSeq (sSet 3 (eOp (bAdd T) (eOp (bMul T) (eC (.int 31186)) (eVar 2)) (eC (.int 228)))) (sSeq (sIf (tCmpB (cNe T) (eOp (dIxT T) (eVar 0) (eC (.int 0))) (eCallD mkLst aNil)) (sSet 3 (eOp (dIxT T) (eOp (dIxT T) (eVar 0) (eC (.int 0))) (eOp (bMod T) (eCallD (b_int T) (aCons (eVar 2) aNil)) (eCallD (b_len T) (aCons (eOp (dIxT T) (eVar 0) (eC (.int 0))) aNil))))) sNil) (sSeq (sIf (tAndM (tCmpB (cLt T) (eVar 2) (eCallD (b_len T) (aCons (eOp (dIxT T) (eVar 0) (eC (.int 0))) aNil))) (tCmpB (cGe T) (eCallD (b_abs T) (aCons (eVar 3) aNil)) (eOp (bPow T) (eC (.int 10)) (eC (.int 18))))) (sSeq (sSet 6 (eOp (bAdd T) (eOp (bMul T) (eC (.int 2)) (eOp (bSub T) (eCallD (b_abs T) (aCons (eVar 3) aNil)) (eOp (bPow T) (eC (.int 10)) (eC (.int 18))))) (eCallD (b_int T) (aCons (eOp (cLt T) (eVar 3) (eC (.int 0))) aNil)))) (sSeq (sAsg (eOp (bDiv T) (eCallD (b_int T) (aCons (eVar 6) aNil)) (eVar 1)) (gSubM T (eVar 0) (eC (.int 2)))) (sRetF (eOp (bMod T) (eCallD (b_int T) (aCons (eVar 6) aNil)) (eVar 1))))) sNil) (sSeq (sSet 4 (eOp (bMod T) (eCallD (b_int T) (aCons (eOp (bPow T) (eOp (bAdd T) (eOp (bAdd T) (eOp (bMod T) (eCallD (b_int T) (aCons (eVar 3) aNil)) (eC (.int 2147483497))) (eOp (bMul T) (eC (.int 52306)) (eVar 2))) (eC (.int 320))) (eC (.int 5))) aNil)) (eC (.int 2147483629)))) (sSeq (sSet 4 (eOp (bMod T) (eCallD (b_int T) (aCons (eOp (bPow T) (eOp (bAdd T) (eOp (bAdd T) (eOp (bMul T) (eVar 4) (eOp (bAdd T) (eOp (bMul T) (eC (.int 2)) (eVar 2)) (eC (.int 122)))) (eOp (bMul T) (eOp (bMul T) (eC (.int 61210)) (eVar 2)) (eVar 2))) (eC (.int 166))) (eC (.int 3))) aNil)) (eC (.int 2147483563)))) (sRetF (eOp (bMod T) (eCallD (b_int T) (aCons (eOp (bDiv T) (eVar 4) (eC (.int 32))) aNil)) (eVar 1))))))))))
abbrev n_law_draw : List Str := ["_law_pen_here", "_law_many", "_law_turn", "_law_drawn", "_law_mixed", "_law_digit", "_law_great"]
noncomputable def b_law_pick (T : Tb) : SS := sRetF (eOp (dIxT T) (eVar 1) (eCallD (T.run "_law_draw") (aCons (eVar 0) (aCons (eCallD (b_len T) (aCons (eVar 1) aNil)) aNil))))
abbrev n_law_pick : List Str := ["_law_pen_here", "_law_some"]
noncomputable def b_law_pair (T : Tb) : SS := sSeq (sSet 1 (eOp (bPow T) (eC (.int 10)) (eC (.int 30)))) (sSeq (sSet 2 (eCallD (T.run "_law_pick") (aCons (eVar 0) (aCons (eCallD mkLst (aCons (eC (.int 0)) (aCons (eC (.int 1)) (aCons (eC (.int 2)) (aCons (eC (.int 3)) (aCons (eC (.int 5)) (aCons (eC (.int 12)) (aCons (eC (.int 297)) (aCons (eOp (bSub T) (eOp (bSub T) (eVar 1) (eC (.int 1))) (eCallD (T.run "_law_draw") (aCons (eVar 0) (aCons (eC (.int 99)) aNil)))) (aCons (eCallD (T.run "_law_draw") (aCons (eVar 0) (aCons (eVar 1) aNil))) aNil)))))))))) aNil)))) (sSeq (sSet 3 (eCallD (T.run "_law_pick") (aCons (eVar 0) (aCons (eCallD mkLst (aCons (eC (.int 1)) (aCons (eC (.int 1)) (aCons (eC (.int 1)) (aCons (eC (.int 2)) (aCons (eC (.int 3)) (aCons (eC (.int 4)) (aCons (eC (.int 12)) (aCons (eOp (bSub T) (eVar 1) (eC (.int 1))) (aCons (eOp (bAdd T) (eC (.int 1)) (eCallD (T.run "_law_draw") (aCons (eVar 0) (aCons (eOp (bSub T) (eVar 1) (eC (.int 1))) aNil)))) aNil)))))))))) aNil)))) (sRetF (eCallD mkTup (aCons (eIf (tCmpB (cEq T) (eCallD (T.run "_law_draw") (aCons (eVar 0) (aCons (eC (.int 2)) aNil))) (eC (.int 0))) (eVar 2) (eUn (uNeg T) (eVar 2))) (aCons (eVar 3) aNil))))))
abbrev n_law_pair : List Str := ["_law_pen_here", "_law_great", "_law_upper", "_law_lower"]
noncomputable def b_law_low (T : Tb) : SS := sSeq (sPar 3 4 (aCons (eCallD (b_abs T) (aCons (eVar 0) aNil)) (aCons (eCallD (b_abs T) (aCons (eVar 1) aNil)) aNil))) (sSeq (sWhileF (tCmpB (cGt T) (eVar 4) (eC (.int 0))) (sPar 3 4 (aCons (eVar 4) (aCons (eOp (bMod T) (eCallD (b_int T) (aCons (eVar 3) aNil)) (eVar 4)) aNil))) FU) (sSeq (sSet 2 (eIf (tCmpB (cGt T) (eVar 1) (eC (.int 0))) (eC (.int 1)) (eUn (uNeg T) (eC (.int 1))))) (sRetF (eCallD mkTup (aCons (eOp (bDiv T) (eOp (bMul T) (eVar 2) (eVar 0)) (eVar 3)) (aCons (eOp (bDiv T) (eOp (bMul T) (eVar 2) (eVar 1)) (eVar 3)) aNil))))))
abbrev n_law_low : List Str := ["_law_upper", "_law_lower", "_law_sign", "_law_one", "_law_other"]
noncomputable def b_law_made (T : Tb) : SS := sSeq (sSet 2 (eCallD (T.run "_law_pick") (aCons (eVar 0) (aCons (eCallD mkLst (aCons (eC (.int 1)) (aCons (eUn (uNeg T) (eC (.int 1))) aNil))) aNil)))) (sSeq (sIf (tAndM (tCmpB (cLt T) (eCallD (b_abs T) (aCons (eOp (dIxT T) (eVar 1) (eC (.int 0))) aNil)) (eOp (bPow T) (eC (.int 10)) (eC (.int 25)))) (tCmpB (cLt T) (eOp (dIxT T) (eVar 1) (eC (.int 1))) (eOp (bPow T) (eC (.int 10)) (eC (.int 25))))) (sSet 2 (eOp (bMul T) (eVar 2) (eCallD (T.run "_law_pick") (aCons (eVar 0) (aCons (eCallD mkLst (aCons (eC (.int 1)) (aCons (eC (.int 2)) (aCons (eC (.int 12)) (aCons (eC (.int 1001)) aNil))))) aNil))))) sNil) (sRetF (eCallD (mkI T "Amount") (aCons (eOp (bMul T) (eOp (dIxT T) (eVar 1) (eC (.int 0))) (eVar 2)) (aCons (eOp (bMul T) (eOp (dIxT T) (eVar 1) (eC (.int 1))) (eVar 2)) aNil)))))
abbrev n_law_made : List Str := ["_law_pen_here", "_law_pair_here", "_law_times"]
noncomputable def b_law_operand (T : Tb) : SS := sSeq (sAsg (eCallD (T.run "_law_low") (aCons (eOp (dIxT T) (eVar 1) (eC (.int 0))) (aCons (eOp (dIxT T) (eVar 1) (eC (.int 1))) aNil))) (gT (gC (gN 2) (gC (gN 3) gNil)))) (sRetF (eIf (tAndM (tCmpB (cEq T) (eVar 3) (eC (.int 1))) (tCmpB (cEq T) (eCallD (T.run "_law_draw") (aCons (eVar 0) (aCons (eC (.int 2)) aNil))) (eC (.int 0)))) (eVar 2) (eCallD (T.run "_law_made") (aCons (eVar 0) (aCons (eVar 1) aNil)))))
abbrev n_law_operand : List Str := ["_law_pen_here", "_law_pair_here", "_law_upper", "_law_lower"]
noncomputable def b_law_is (T : Tb) : SS := sRetF (eAnd (eCallD (b_isinstance T) (aCons (eVar 0) (aCons (eC (.glo "Amount")) aNil))) (eOp (cEq T) (eCallD (b_repr T) (aCons (eCallD mkTup (aCons (eUn (mAttr T "top") (eVar 0)) (aCons (eUn (mAttr T "bottom") (eVar 0)) aNil))) aNil)) (eCallD (b_repr T) (aCons (eCallD (T.run "_law_low") (aCons (eVar 1) (aCons (eVar 2) aNil))) aNil))))
abbrev n_law_is : List Str := ["_law_found", "_law_upper", "_law_lower"]
noncomputable def b_law_sums_right (T : Tb) : SS := sSeq (sAsg (eCallD mkTup (aCons (eVar 0) (aCons (eVar 1) aNil))) (gT (gC (gT (gC (gN 6) (gC (gN 7) gNil))) (gC (gT (gC (gN 8) (gC (gN 9) gNil))) gNil)))) (sSeq (sSet 4 (eCallD mkLst (aCons (eOp (bAdd T) (eVar 2) (eVar 3)) (aCons (eOp (bAdd T) (eVar 3) (eVar 2)) (aCons (eOp (bSub T) (eVar 2) (eVar 3)) (aCons (eOp (bSub T) (eVar 3) (eVar 2)) (aCons (eOp (bMul T) (eVar 2) (eVar 3)) (aCons (eOp (bMul T) (eVar 3) (eVar 2)) aNil)))))))) (sSeq (sSet 5 (eCallD mkLst (aCons (eOp (bAdd T) (eOp (bMul T) (eVar 6) (eVar 9)) (eOp (bMul T) (eVar 8) (eVar 7))) (aCons (eOp (bAdd T) (eOp (bMul T) (eVar 6) (eVar 9)) (eOp (bMul T) (eVar 8) (eVar 7))) (aCons (eOp (bSub T) (eOp (bMul T) (eVar 6) (eVar 9)) (eOp (bMul T) (eVar 8) (eVar 7))) (aCons (eOp (bSub T) (eOp (bMul T) (eVar 8) (eVar 7)) (eOp (bMul T) (eVar 6) (eVar 9))) (aCons (eOp (bMul T) (eVar 6) (eVar 8)) (aCons (eOp (bMul T) (eVar 6) (eVar 8)) aNil)))))))) (sRetF (eOp (cEq T) (eLc (iArgs rng1 (aCons (eC (.int 6)) aNil)) (tmN 10) (tNotM (tVal (truM T) (eCallD (T.run "_law_is") (aCons (eOp (dIxT T) (eVar 4) (eVar 10)) (aCons (eOp (dIxT T) (eVar 5) (eVar 10)) (aCons (eOp (bMul T) (eVar 7) (eVar 9)) aNil)))))) (eVar 10) [10]) (eCallD mkLst aNil)))))
abbrev n_law_sums_right : List Str := ["_law_one", "_law_other", "_law_thing", "_law_operand_here", "_law_told", "_law_tops", "_law_t", "_law_u", "_law_v", "_law_w", "_law_k"]
noncomputable def b_law_parts_right (T : Tb) : SS := sSeq (sAsg (eCallD mkTup (aCons (eVar 0) (aCons (eVar 1) aNil))) (gT (gC (gT (gC (gN 6) (gC (gN 7) gNil))) (gC (gT (gC (gN 8) (gC (gN 9) gNil))) gNil)))) (sSeq (sSet 5 (eOp (bDiv T) (eOp (bMul T) (eVar 6) (eVar 9)) (eOp (bMul T) (eVar 7) (eVar 8)))) (sSeq (sIf (tOrM (tNotM (tVal (truM T) (eCallD (T.run "_law_is") (aCons (eVar 2) (aCons (eOp (bMul T) (eVar 6) (eVar 9)) (aCons (eOp (bMul T) (eVar 7) (eVar 8)) aNil)))))) (tCmpB (cNe T) (eCallD (b_repr T) (aCons (eVar 3) aNil)) (eCallD (b_repr T) (aCons (eVar 5) aNil)))) (sRetF (eC (.bl false))) sNil) (sRetF (eCallD (T.run "_law_is") (aCons (eVar 4) (aCons (eOp (bSub T) (eOp (bMul T) (eVar 6) (eVar 9)) (eOp (bMul T) (eOp (bMul T) (eVar 5) (eVar 8)) (eVar 7))) (aCons (eOp (bMul T) (eVar 7) (eVar 9)) aNil)))))))
abbrev n_law_parts_right : List Str := ["_law_one", "_law_other", "_law_told", "_law_whole", "_law_rest", "_law_many", "_law_t", "_law_u", "_law_v", "_law_w"]
noncomputable def b_law_is_refused (T : Tb) : SS := sSeq (sSet 1 (eC .non)) (sSeq (sTry T "PaneError" 2 (sExpr eBad) (sSet 1 (eVar 2))) (sRetF (eAnd (eCallD (b_isinstance T) (aCons (eVar 1) (aCons (eC (.glo "BadNumber")) aNil))) (eAnd (eOp (cEq T) (eUn (mAttr T "value") (eVar 1)) (eC (.int 0))) (eNot (eCallD (b_isinstance T) (aCons (eUn (mAttr T "value") (eVar 1)) (aCons (eC (.ty "bool")) aNil))))))))
abbrev n_law_is_refused : List Str := ["_law_ask", "_law_caught", "error"]
noncomputable def b_law_quotients_right (T : Tb) : SS := sGuard (sSeq (sIf (tCmpB (cEq T) (eOp (dIxT T) (eVar 1) (eC (.int 0))) (eC (.int 0))) (sSeq (sSet 4 (eCallD mkLst (aCons (eC (.lam 0 [])) (aCons (eC (.lam 1 [])) (aCons (eC (.lam 2 [])) aNil))))) (sRetF (eOp (cEq T) (eLc (iSeqT (eVar 4)) (tmN 5) (tNotM (tVal (truM T) (eHoleVi [5] 3 (hb_law_is_refused T) [eMeth T "per" (eVar 2) (aCons (eVar 3) aNil), eOp (bDiv T) (eVar 2) (eVar 3), eOp (bMod T) (eVar 2) (eVar 3), eOp (bDiv T) (eVar 3) (eVar 2), eOp (bMod T) (eVar 3) (eVar 2)] (eVar 5)))) (eVar 5) [5]) (eCallD mkLst aNil)))) sNil) (sSeq (sIf (tNotM (tVal (truM T) (eCallD (T.run "_law_parts_right") (aCons (eVar 0) (aCons (eVar 1) (aCons (eMethK T "per" ["number"] (eVar 2) (aCons (eVar 3) aNil)) (aCons (eOp (bDiv T) (eVar 2) (eVar 3)) (aCons (eOp (bMod T) (eVar 2) (eVar 3)) aNil)))))))) (sRetF (eC (.bl false))) sNil) (sSeq (sIf (tCmpB (cEq T) (eOp (dIxT T) (eVar 0) (eC (.int 0))) (eC (.int 0))) (sSeq (sSet 4 (eCallD mkLst (aCons (eC (.lam 3 [])) (aCons (eC (.lam 4 [])) aNil)))) (sRetF (eOp (cEq T) (eLc (iSeqT (eVar 4)) (tmN 5) (tNotM (tVal (truM T) (eHoleVi [5] 3 (hb_law_is_refused T) [eMeth T "per" (eVar 2) (aCons (eVar 3) aNil), eOp (bDiv T) (eVar 2) (eVar 3), eOp (bMod T) (eVar 2) (eVar 3), eOp (bDiv T) (eVar 3) (eVar 2), eOp (bMod T) (eVar 3) (eVar 2)] (eVar 5)))) (eVar 5) [5]) (eCallD mkLst aNil)))) sNil) (sRetF (eCallD (T.run "_law_parts_right") (aCons (eVar 1) (aCons (eVar 0) (aCons (eMeth T "per" (eMeth T "of" (eC (.glo "Amount")) (aCons (eVar 3) aNil)) (aCons (eVar 2) aNil)) (aCons (eOp (bDiv T) (eVar 3) (eVar 2)) (aCons (eOp (bMod T) (eVar 3) (eVar 2)) aNil))))))))))
abbrev n_law_quotients_right : List Str := ["_law_one", "_law_other", "_law_thing", "_law_operand_here", "_law_asks", "_law_ask"]
noncomputable def b_law_in_place_right (T : Tb) : SS := sSeq (sAsg (eCallD mkTup (aCons (eVar 2) (aCons (eVar 2) (aCons (eVar 2) (aCons (eVar 2) (aCons (eVar 2) aNil)))))) (gT (gC (gN 4) (gC (gN 5) (gC (gN 6) (gC (gN 7) (gC (gN 8) gNil))))))) (sSeq (sAug 4 (iAddA T) (eVar 3)) (sSeq (sAug 5 (iSubA T) (eVar 3)) (sSeq (sAug 6 (iMulA T) (eVar 3)) (sSeq (sIf (tOrM (tNotM (tVal (truM T) (eCallD (T.run "_law_is") (aCons (eVar 2) (aCons (eOp (dIxT T) (eVar 0) (eC (.int 0))) (aCons (eOp (dIxT T) (eVar 0) (eC (.int 1))) aNil)))))) (tOrM (tCmpB (cNe T) (eVar 4) (eOp (bAdd T) (eVar 2) (eVar 3))) (tCmpB (cNe T) (eVar 5) (eOp (bSub T) (eVar 2) (eVar 3))))) (sRetF (eC (.bl false))) sNil) (sSeq (sIf (tCmpB (cNe T) (eOp (dIxT T) (eVar 1) (eC (.int 0))) (eC (.int 0))) (sSeq (sAug 7 (iDivA T) (eVar 3)) (sSeq (sAug 8 (iModA T) (eVar 3)) (sIf (tOrM (tCmpB (cNe T) (eVar 7) (eOp (bDiv T) (eVar 2) (eVar 3))) (tCmpB (cNe T) (eVar 8) (eOp (bMod T) (eVar 2) (eVar 3)))) (sRetF (eC (.bl false))) sNil))) sNil) (sRetF (eAnd (eOp (cEq T) (eVar 6) (eOp (bMul T) (eVar 2) (eVar 3))) (eCallD (T.run "_law_is") (aCons (eVar 2) (aCons (eOp (dIxT T) (eVar 0) (eC (.int 0))) (aCons (eOp (dIxT T) (eVar 0) (eC (.int 1))) aNil)))))))))))
abbrev n_law_in_place_right : List Str := ["_law_one", "_law_other", "_law_thing", "_law_operand_here", "_law_grown", "_law_left", "_law_times", "_law_whole", "_law_rest"]
noncomputable def b_law (T : Tb) : SS := sSeq (sSet 1 (eCallD (T.run "_law_pen") (aCons (eVar 0) aNil))) (sSeq (sForI (iArgs rng1 (aCons (eC (.int 9)) aNil)) (gN 2) (sSeq (sPar 3 4 (aCons (eCallD (T.run "_law_pair") (aCons (eVar 1) aNil)) (aCons (eCallD (T.run "_law_pair") (aCons (eVar 1) aNil)) aNil))) (sSeq (sPar 5 6 (aCons (eCallD (T.run "_law_made") (aCons (eVar 1) (aCons (eVar 3) aNil))) (aCons (eCallD (T.run "_law_operand") (aCons (eVar 1) (aCons (eVar 4) aNil))) aNil))) (sSeq (sIf (tOrM (tNotM (tVal (truM T) (eCallD (T.run "_law_is") (aCons (eVar 5) (aCons (eOp (dIxT T) (eVar 3) (eC (.int 0))) (aCons (eOp (dIxT T) (eVar 3) (eC (.int 1))) aNil)))))) (tNotM (tVal (truM T) (eCallD (T.run "_law_sums_right") (aCons (eVar 3) (aCons (eVar 4) (aCons (eVar 5) (aCons (eVar 6) aNil)))))))) (sRetF (eC (.bl false))) sNil) (sSeq (sIf (tNotM (tVal (truM T) (eCallD (T.run "_law_quotients_right") (aCons (eVar 3) (aCons (eVar 4) (aCons (eVar 5) (aCons (eVar 6) aNil))))))) (sRetF (eC (.bl false))) sNil) (sSeq (sIf (tNotM (tVal (truM T) (eCallD (T.run "_law_in_place_right") (aCons (eVar 3) (aCons (eVar 4) (aCons (eVar 5) (aCons (eVar 6) aNil))))))) (sRetF (eC (.bl false))) sNil) (sIf (tOrM (tNotM (tVal (truM T) (eCallD (T.run "_law_is") (aCons (eUn (uNeg T) (eVar 5)) (aCons (eUn (uNeg T) (eOp (dIxT T) (eVar 3) (eC (.int 0)))) (aCons (eOp (dIxT T) (eVar 3) (eC (.int 1))) aNil)))))) (tNotM (tVal (truM T) (eCallD (T.run "_law_is") (aCons (eCallD (b_abs T) (aCons (eVar 5) aNil)) (aCons (eCallD (b_abs T) (aCons (eOp (dIxT T) (eVar 3) (eC (.int 0))) aNil)) (aCons (eOp (dIxT T) (eVar 3) (eC (.int 1))) aNil))))))) (sRetF (eC (.bl false))) sNil))))))) (sRetF (eAnd (eCallD (T.run "_law_is") (aCons (eCallD (mkI T "Amount") (aCons (eC (.int 7)) aNil)) (aCons (eC (.int 7)) (aCons (eC (.int 1)) aNil)))) (eCallD (T.run "_law_is") (aCons (eMakeK T "Amount" ["bottom", "top"] aNil (aCons (eUn (uNeg T) (eC (.int 4))) (aCons (eC (.int 6)) aNil))) (aCons (eUn (uNeg T) (eC (.int 3))) (aCons (eC (.int 2)) aNil)))))))
abbrev n_law : List Str := ["_law_script", "_law_pen_here", "_law_turn", "_law_one", "_law_other", "_law_thing", "_law_operand_here"]
noncomputable def dfs0 : List (Str × Bd) := [("is_integer", ⟨false, 1, 1, [], b_is_integer⟩),
  ("is_plain", ⟨false, 1, 1, [], b_is_plain⟩),
  ("shared_divisor", ⟨false, 2, 2, [], b_shared_divisor⟩),
  ("Amount.__init__", ⟨false, 3, 4, [.int (1)], b_Amount_init⟩),
  ("Amount.is_number", ⟨false, 1, 1, [], b_Amount_is_number⟩),
  ("Amount.of", ⟨false, 1, 1, [], b_Amount_of⟩),
  ("Amount.per", ⟨false, 2, 3, [], b_Amount_per⟩),
  ("Amount.__add__", ⟨false, 2, 3, [], b_Amount_add⟩),
  ("Amount.__radd__", ⟨false, 2, 2, [], b_Amount_radd⟩),
  ("Amount.__sub__", ⟨false, 2, 3, [], b_Amount_sub⟩),
  ("Amount.__rsub__", ⟨false, 2, 2, [], b_Amount_rsub⟩),
  ("Amount.__mul__", ⟨false, 2, 3, [], b_Amount_mul⟩),
  ("Amount.__rmul__", ⟨false, 2, 2, [], b_Amount_rmul⟩),
  ("Amount.__floordiv__", ⟨false, 2, 3, [], b_Amount_floordiv⟩),
  ("Amount.__rfloordiv__", ⟨false, 2, 2, [], b_Amount_rfloordiv⟩),
  ("Amount.__mod__", ⟨false, 2, 2, [], b_Amount_mod⟩)]
noncomputable def dfs1 : List (Str × Bd) := [("Amount.__rmod__", ⟨false, 2, 2, [], b_Amount_rmod⟩),
  ("Amount.__neg__", ⟨false, 1, 1, [], b_Amount_neg⟩),
  ("Amount.__abs__", ⟨false, 1, 1, [], b_Amount_abs⟩),
  ("Amount.__bool__", ⟨false, 1, 1, [], b_Amount_bool⟩),
  ("Amount.__eq__", ⟨false, 2, 2, [], b_Amount_eq⟩),
  ("Amount.__lt__", ⟨false, 2, 3, [], b_Amount_lt⟩),
  ("Amount.__le__", ⟨false, 2, 3, [], b_Amount_le⟩),
  ("Amount.__gt__", ⟨false, 2, 3, [], b_Amount_gt⟩),
  ("Amount.__ge__", ⟨false, 2, 3, [], b_Amount_ge⟩),
  ("Amount.__str__", ⟨false, 1, 1, [], b_Amount_str⟩),
  ("divisor_of", ⟨false, 1, 1, [], b_divisor_of⟩),
  ("_law_pen", ⟨true, 1, 1, [], b_law_pen⟩),
  ("_law_draw", ⟨false, 2, 7, [], b_law_draw⟩),
  ("_law_pick", ⟨false, 2, 2, [], b_law_pick⟩),
  ("_law_pair", ⟨false, 1, 4, [], b_law_pair⟩),
  ("_law_low", ⟨false, 2, 5, [], b_law_low⟩)]
noncomputable def dfs2 : List (Str × Bd) := [("_law_made", ⟨false, 2, 3, [], b_law_made⟩),
  ("_law_operand", ⟨false, 2, 4, [], b_law_operand⟩),
  ("_law_is", ⟨false, 3, 3, [], b_law_is⟩),
  ("_law_sums_right", ⟨false, 4, 11, [], b_law_sums_right⟩),
  ("_law_parts_right", ⟨false, 5, 10, [], b_law_parts_right⟩),
  ("_law_is_refused", ⟨false, 1, 3, [], b_law_is_refused⟩),
  ("_law_quotients_right", ⟨false, 4, 6, [], b_law_quotients_right⟩),
  ("_law_in_place_right", ⟨false, 4, 9, [], b_law_in_place_right⟩),
  ("law", ⟨false, 1, 7, [], b_law⟩)]
noncomputable def dfs : List (Str × Bd) := dfs0 ++ (dfs1 ++ (dfs2))
/-! the table -/
def lists : Lists := ⟨gloL, kindL, instL, xclL, mroL, xflL, testL, testB, kwL⟩
abbrev sta (run : Str → List D → MM D) : Tb := lists.sta run
noncomputable def rn : Nat → Str → List D → MM D := rnOf lists.sta dfs
section
variable {run : Str → List D → MM D}
theorem g_PaneError : (sta run).glo "PaneError" = some (.xc) := by kernel_rfl
theorem gb_PaneError : gloB (sta run) "PaneError" = true := by kernel_rfl
theorem g_BadNumber : (sta run).glo "BadNumber" = some (.xc) := by kernel_rfl
theorem gb_BadNumber : gloB (sta run) "BadNumber" = true := by kernel_rfl
theorem g_BadText : (sta run).glo "BadText" = some (.xc) := by kernel_rfl
theorem gb_BadText : gloB (sta run) "BadText" = true := by kernel_rfl
theorem g_FIGURES : (sta run).glo "FIGURES" = some (.str "0123456789") := by kernel_rfl
theorem g_is_integer : (sta run).glo "is_integer" = some (.fn) := by kernel_rfl
theorem gb_is_integer : gloB (sta run) "is_integer" = true := by kernel_rfl
theorem g_is_plain : (sta run).glo "is_plain" = some (.fn) := by kernel_rfl
theorem gb_is_plain : gloB (sta run) "is_plain" = true := by kernel_rfl
theorem g_shared_divisor : (sta run).glo "shared_divisor" = some (.fn) := by kernel_rfl
theorem gb_shared_divisor : gloB (sta run) "shared_divisor" = true := by kernel_rfl
theorem g_Amount : (sta run).glo "Amount" = some (.cls) := by kernel_rfl
theorem gb_Amount : gloB (sta run) "Amount" = true := by kernel_rfl
theorem g_divisor_of : (sta run).glo "divisor_of" = some (.fn) := by kernel_rfl
theorem gb_divisor_of : gloB (sta run) "divisor_of" = true := by kernel_rfl
theorem g_law_pen : (sta run).glo "_law_pen" = some (.fn) := by kernel_rfl
theorem gb_law_pen : gloB (sta run) "_law_pen" = true := by kernel_rfl
theorem g_law_draw : (sta run).glo "_law_draw" = some (.fn) := by kernel_rfl
theorem gb_law_draw : gloB (sta run) "_law_draw" = true := by kernel_rfl
theorem g_law_pick : (sta run).glo "_law_pick" = some (.fn) := by kernel_rfl
theorem gb_law_pick : gloB (sta run) "_law_pick" = true := by kernel_rfl
theorem g_law_pair : (sta run).glo "_law_pair" = some (.fn) := by kernel_rfl
theorem gb_law_pair : gloB (sta run) "_law_pair" = true := by kernel_rfl
theorem g_law_low : (sta run).glo "_law_low" = some (.fn) := by kernel_rfl
theorem gb_law_low : gloB (sta run) "_law_low" = true := by kernel_rfl
theorem g_law_made : (sta run).glo "_law_made" = some (.fn) := by kernel_rfl
theorem gb_law_made : gloB (sta run) "_law_made" = true := by kernel_rfl
theorem g_law_operand : (sta run).glo "_law_operand" = some (.fn) := by kernel_rfl
theorem gb_law_operand : gloB (sta run) "_law_operand" = true := by kernel_rfl
theorem g_law_is : (sta run).glo "_law_is" = some (.fn) := by kernel_rfl
theorem gb_law_is : gloB (sta run) "_law_is" = true := by kernel_rfl
theorem g_law_sums_right : (sta run).glo "_law_sums_right" = some (.fn) := by kernel_rfl
theorem gb_law_sums_right : gloB (sta run) "_law_sums_right" = true := by kernel_rfl
theorem g_law_parts_right : (sta run).glo "_law_parts_right" = some (.fn) := by kernel_rfl
theorem gb_law_parts_right : gloB (sta run) "_law_parts_right" = true := by kernel_rfl
theorem g_law_is_refused : (sta run).glo "_law_is_refused" = some (.fn) := by kernel_rfl
theorem gb_law_is_refused : gloB (sta run) "_law_is_refused" = true := by kernel_rfl
theorem g_law_quotients_right : (sta run).glo "_law_quotients_right" = some (.fn) := by kernel_rfl
theorem gb_law_quotients_right : gloB (sta run) "_law_quotients_right" = true := by kernel_rfl
theorem g_law_in_place_right : (sta run).glo "_law_in_place_right" = some (.fn) := by kernel_rfl
theorem gb_law_in_place_right : gloB (sta run) "_law_in_place_right" = true := by kernel_rfl
theorem g_law : (sta run).glo "law" = some (.fn) := by kernel_rfl
theorem gb_law : gloB (sta run) "law" = true := by kernel_rfl
theorem g_ValueError : (sta run).glo "ValueError" = some (.free) := by kernel_rfl
theorem g_abs : (sta run).glo "abs" = some (.free) := by kernel_rfl
theorem g_all : (sta run).glo "all" = some (.free) := by kernel_rfl
theorem g_bool : (sta run).glo "bool" = some (.free) := by kernel_rfl
theorem g_dict : (sta run).glo "dict" = some (.free) := by kernel_rfl
theorem g_int : (sta run).glo "int" = some (.free) := by kernel_rfl
theorem g_isinstance : (sta run).glo "isinstance" = some (.free) := by kernel_rfl
theorem g_len : (sta run).glo "len" = some (.free) := by kernel_rfl
theorem g_list : (sta run).glo "list" = some (.free) := by kernel_rfl
theorem g_range : (sta run).glo "range" = some (.free) := by kernel_rfl
theorem g_repr : (sta run).glo "repr" = some (.free) := by kernel_rfl
theorem g_str : (sta run).glo "str" = some (.free) := by kernel_rfl
theorem g_tuple : (sta run).glo "tuple" = some (.free) := by kernel_rfl
theorem x_BadNumber : (sta run).xfl "BadNumber" = some (["value"] : List Str) := by kernel_rfl
theorem x_BadText : (sta run).xfl "BadText" = some (["line", "word"] : List Str) := by kernel_rfl
theorem k_BadNumber_f_value : (sta run).kind "BadNumber" "value" = .xabs := by kernel_rfl
theorem k_BadText_f_line : (sta run).kind "BadText" "line" = .xabs := by kernel_rfl
theorem k_BadText_f_word : (sta run).kind "BadText" "word" = .xabs := by kernel_rfl
theorem k_Amount_iadd : (sta run).kind "Amount" "__iadd__" = .abs := by kernel_rfl
theorem k_Amount_isub : (sta run).kind "Amount" "__isub__" = .abs := by kernel_rfl
theorem k_Amount_imul : (sta run).kind "Amount" "__imul__" = .abs := by kernel_rfl
theorem k_Amount_ifloordiv : (sta run).kind "Amount" "__ifloordiv__" = .abs := by kernel_rfl
theorem k_Amount_imod : (sta run).kind "Amount" "__imod__" = .abs := by kernel_rfl
theorem k_Amount_iand : (sta run).kind "Amount" "__iand__" = .abs := by kernel_rfl
theorem k_Amount_ior : (sta run).kind "Amount" "__ior__" = .abs := by kernel_rfl
theorem k_Amount_init : (sta run).kind "Amount" "__init__" = .fn "Amount.__init__" := by kernel_rfl
theorem k_Amount_add : (sta run).kind "Amount" "__add__" = .fn "Amount.__add__" := by kernel_rfl
theorem k_Amount_radd : (sta run).kind "Amount" "__radd__" = .fn "Amount.__radd__" := by kernel_rfl
theorem k_Amount_sub : (sta run).kind "Amount" "__sub__" = .fn "Amount.__sub__" := by kernel_rfl
theorem k_Amount_rsub : (sta run).kind "Amount" "__rsub__" = .fn "Amount.__rsub__" := by kernel_rfl
theorem k_Amount_mul : (sta run).kind "Amount" "__mul__" = .fn "Amount.__mul__" := by kernel_rfl
theorem k_Amount_rmul : (sta run).kind "Amount" "__rmul__" = .fn "Amount.__rmul__" := by kernel_rfl
theorem k_Amount_floordiv : (sta run).kind "Amount" "__floordiv__" = .fn "Amount.__floordiv__" := by kernel_rfl
theorem k_Amount_rfloordiv : (sta run).kind "Amount" "__rfloordiv__" = .fn "Amount.__rfloordiv__" := by kernel_rfl
theorem k_Amount_mod : (sta run).kind "Amount" "__mod__" = .fn "Amount.__mod__" := by kernel_rfl
theorem k_Amount_rmod : (sta run).kind "Amount" "__rmod__" = .fn "Amount.__rmod__" := by kernel_rfl
theorem k_Amount_and : (sta run).kind "Amount" "__and__" = .abs := by kernel_rfl
theorem k_Amount_rand : (sta run).kind "Amount" "__rand__" = .abs := by kernel_rfl
theorem k_Amount_or : (sta run).kind "Amount" "__or__" = .abs := by kernel_rfl
theorem k_Amount_ror : (sta run).kind "Amount" "__ror__" = .abs := by kernel_rfl
theorem k_Amount_neg : (sta run).kind "Amount" "__neg__" = .fn "Amount.__neg__" := by kernel_rfl
theorem k_Amount_abs : (sta run).kind "Amount" "__abs__" = .fn "Amount.__abs__" := by kernel_rfl
theorem k_Amount_bool : (sta run).kind "Amount" "__bool__" = .fn "Amount.__bool__" := by kernel_rfl
theorem k_Amount_eq : (sta run).kind "Amount" "__eq__" = .fn "Amount.__eq__" := by kernel_rfl
theorem k_Amount_lt : (sta run).kind "Amount" "__lt__" = .fn "Amount.__lt__" := by kernel_rfl
theorem k_Amount_le : (sta run).kind "Amount" "__le__" = .fn "Amount.__le__" := by kernel_rfl
theorem k_Amount_gt : (sta run).kind "Amount" "__gt__" = .fn "Amount.__gt__" := by kernel_rfl
theorem k_Amount_ge : (sta run).kind "Amount" "__ge__" = .fn "Amount.__ge__" := by kernel_rfl
theorem k_Amount_str : (sta run).kind "Amount" "__str__" = .fn "Amount.__str__" := by kernel_rfl
theorem k_Amount_f_bottom : (sta run).kind "Amount" "bottom" = .abs := by kernel_rfl
theorem k_Amount_f_is_number : (sta run).kind "Amount" "is_number" = .stat "Amount.is_number" := by kernel_rfl
theorem k_Amount_f_of : (sta run).kind "Amount" "of" = .stat "Amount.of" := by kernel_rfl
theorem k_Amount_f_per : (sta run).kind "Amount" "per" = .fn "Amount.per" := by kernel_rfl
theorem k_Amount_f_top : (sta run).kind "Amount" "top" = .abs := by kernel_rfl
theorem k_Amount_f_Smro : (sta run).kind "Amount" "$mro" = .m2 := by kernel_rfl
theorem r_is_integer {j : Nat} {ds : List D} : rn (j + 1) "is_integer" ds = mFn false 1 1 (b_is_integer (sta (rn j))) (fill 1 [] ds) := by kernel_rfl
theorem r_is_plain {j : Nat} {ds : List D} : rn (j + 1) "is_plain" ds = mFn false 1 1 (b_is_plain (sta (rn j))) (fill 1 [] ds) := by kernel_rfl
theorem r_shared_divisor {j : Nat} {ds : List D} : rn (j + 1) "shared_divisor" ds = mFn false 2 2 (b_shared_divisor (sta (rn j))) (fill 2 [] ds) := by kernel_rfl
theorem r_Amount_init {j : Nat} {ds : List D} : rn (j + 1) "Amount.__init__" ds = mFn false 3 4 (b_Amount_init (sta (rn j))) (fill 3 [.int (1)] ds) := by kernel_rfl
theorem r_Amount_is_number {j : Nat} {ds : List D} : rn (j + 1) "Amount.is_number" ds = mFn false 1 1 (b_Amount_is_number (sta (rn j))) (fill 1 [] ds) := by kernel_rfl
theorem r_Amount_of {j : Nat} {ds : List D} : rn (j + 1) "Amount.of" ds = mFn false 1 1 (b_Amount_of (sta (rn j))) (fill 1 [] ds) := by kernel_rfl
theorem r_Amount_per {j : Nat} {ds : List D} : rn (j + 1) "Amount.per" ds = mFn false 2 3 (b_Amount_per (sta (rn j))) (fill 2 [] ds) := by kernel_rfl
theorem r_Amount_add {j : Nat} {ds : List D} : rn (j + 1) "Amount.__add__" ds = mFn false 2 3 (b_Amount_add (sta (rn j))) (fill 2 [] ds) := by kernel_rfl
theorem r_Amount_radd {j : Nat} {ds : List D} : rn (j + 1) "Amount.__radd__" ds = mFn false 2 2 (b_Amount_radd (sta (rn j))) (fill 2 [] ds) := by kernel_rfl
theorem r_Amount_sub {j : Nat} {ds : List D} : rn (j + 1) "Amount.__sub__" ds = mFn false 2 3 (b_Amount_sub (sta (rn j))) (fill 2 [] ds) := by kernel_rfl
theorem r_Amount_rsub {j : Nat} {ds : List D} : rn (j + 1) "Amount.__rsub__" ds = mFn false 2 2 (b_Amount_rsub (sta (rn j))) (fill 2 [] ds) := by kernel_rfl
theorem r_Amount_mul {j : Nat} {ds : List D} : rn (j + 1) "Amount.__mul__" ds = mFn false 2 3 (b_Amount_mul (sta (rn j))) (fill 2 [] ds) := by kernel_rfl
theorem r_Amount_rmul {j : Nat} {ds : List D} : rn (j + 1) "Amount.__rmul__" ds = mFn false 2 2 (b_Amount_rmul (sta (rn j))) (fill 2 [] ds) := by kernel_rfl
theorem r_Amount_floordiv {j : Nat} {ds : List D} : rn (j + 1) "Amount.__floordiv__" ds = mFn false 2 3 (b_Amount_floordiv (sta (rn j))) (fill 2 [] ds) := by kernel_rfl
theorem r_Amount_rfloordiv {j : Nat} {ds : List D} : rn (j + 1) "Amount.__rfloordiv__" ds = mFn false 2 2 (b_Amount_rfloordiv (sta (rn j))) (fill 2 [] ds) := by kernel_rfl
theorem r_Amount_mod {j : Nat} {ds : List D} : rn (j + 1) "Amount.__mod__" ds = mFn false 2 2 (b_Amount_mod (sta (rn j))) (fill 2 [] ds) := by kernel_rfl
theorem r_Amount_rmod {j : Nat} {ds : List D} : rn (j + 1) "Amount.__rmod__" ds = mFn false 2 2 (b_Amount_rmod (sta (rn j))) (fill 2 [] ds) := by kernel_rfl
theorem r_Amount_neg {j : Nat} {ds : List D} : rn (j + 1) "Amount.__neg__" ds = mFn false 1 1 (b_Amount_neg (sta (rn j))) (fill 1 [] ds) := by kernel_rfl
theorem r_Amount_abs {j : Nat} {ds : List D} : rn (j + 1) "Amount.__abs__" ds = mFn false 1 1 (b_Amount_abs (sta (rn j))) (fill 1 [] ds) := by kernel_rfl
theorem r_Amount_bool {j : Nat} {ds : List D} : rn (j + 1) "Amount.__bool__" ds = mFn false 1 1 (b_Amount_bool (sta (rn j))) (fill 1 [] ds) := by kernel_rfl
theorem r_Amount_eq {j : Nat} {ds : List D} : rn (j + 1) "Amount.__eq__" ds = mFn false 2 2 (b_Amount_eq (sta (rn j))) (fill 2 [] ds) := by kernel_rfl
theorem r_Amount_lt {j : Nat} {ds : List D} : rn (j + 1) "Amount.__lt__" ds = mFn false 2 3 (b_Amount_lt (sta (rn j))) (fill 2 [] ds) := by kernel_rfl
theorem r_Amount_le {j : Nat} {ds : List D} : rn (j + 1) "Amount.__le__" ds = mFn false 2 3 (b_Amount_le (sta (rn j))) (fill 2 [] ds) := by kernel_rfl
theorem r_Amount_gt {j : Nat} {ds : List D} : rn (j + 1) "Amount.__gt__" ds = mFn false 2 3 (b_Amount_gt (sta (rn j))) (fill 2 [] ds) := by kernel_rfl
theorem r_Amount_ge {j : Nat} {ds : List D} : rn (j + 1) "Amount.__ge__" ds = mFn false 2 3 (b_Amount_ge (sta (rn j))) (fill 2 [] ds) := by kernel_rfl
theorem r_Amount_str {j : Nat} {ds : List D} : rn (j + 1) "Amount.__str__" ds = mFn false 1 1 (b_Amount_str (sta (rn j))) (fill 1 [] ds) := by kernel_rfl
theorem r_divisor_of {j : Nat} {ds : List D} : rn (j + 1) "divisor_of" ds = mFn false 1 1 (b_divisor_of (sta (rn j))) (fill 1 [] ds) := by kernel_rfl
theorem r_law_pen {j : Nat} {ds : List D} : rn (j + 1) "_law_pen" ds = mFn true 1 1 (b_law_pen (sta (rn j))) (fill 1 [] ds) := by kernel_rfl
theorem r_law_draw {j : Nat} {ds : List D} : rn (j + 1) "_law_draw" ds = mFn false 2 7 (b_law_draw (sta (rn j))) (fill 2 [] ds) := by kernel_rfl
theorem r_law_pick {j : Nat} {ds : List D} : rn (j + 1) "_law_pick" ds = mFn false 2 2 (b_law_pick (sta (rn j))) (fill 2 [] ds) := by kernel_rfl
theorem r_law_pair {j : Nat} {ds : List D} : rn (j + 1) "_law_pair" ds = mFn false 1 4 (b_law_pair (sta (rn j))) (fill 1 [] ds) := by kernel_rfl
theorem r_law_low {j : Nat} {ds : List D} : rn (j + 1) "_law_low" ds = mFn false 2 5 (b_law_low (sta (rn j))) (fill 2 [] ds) := by kernel_rfl
theorem r_law_made {j : Nat} {ds : List D} : rn (j + 1) "_law_made" ds = mFn false 2 3 (b_law_made (sta (rn j))) (fill 2 [] ds) := by kernel_rfl
theorem r_law_operand {j : Nat} {ds : List D} : rn (j + 1) "_law_operand" ds = mFn false 2 4 (b_law_operand (sta (rn j))) (fill 2 [] ds) := by kernel_rfl
theorem r_law_is {j : Nat} {ds : List D} : rn (j + 1) "_law_is" ds = mFn false 3 3 (b_law_is (sta (rn j))) (fill 3 [] ds) := by kernel_rfl
theorem r_law_sums_right {j : Nat} {ds : List D} : rn (j + 1) "_law_sums_right" ds = mFn false 4 11 (b_law_sums_right (sta (rn j))) (fill 4 [] ds) := by kernel_rfl
theorem r_law_parts_right {j : Nat} {ds : List D} : rn (j + 1) "_law_parts_right" ds = mFn false 5 10 (b_law_parts_right (sta (rn j))) (fill 5 [] ds) := by kernel_rfl
theorem r_law_is_refused {j : Nat} {ds : List D} : rn (j + 1) "_law_is_refused" ds = mFn false 1 3 (b_law_is_refused (sta (rn j))) (fill 1 [] ds) := by kernel_rfl
theorem r_law_quotients_right {j : Nat} {ds : List D} : rn (j + 1) "_law_quotients_right" ds = mFn false 4 6 (b_law_quotients_right (sta (rn j))) (fill 4 [] ds) := by kernel_rfl
theorem r_law_in_place_right {j : Nat} {ds : List D} : rn (j + 1) "_law_in_place_right" ds = mFn false 4 9 (b_law_in_place_right (sta (rn j))) (fill 4 [] ds) := by kernel_rfl
theorem r_law {j : Nat} {ds : List D} : rn (j + 1) "law" ds = mFn false 1 7 (b_law (sta (rn j))) (fill 1 [] ds) := by kernel_rfl
end
end MP
set_option Elab.async false
set_option linter.all false
set_option maxRecDepth 100000
/-! the places of the statements -/
namespace SP
open PySem L2
def top (i : Nat) : Stmt := PySem.Challenge.pw_slidpane_k01_amounts_reckoned.main.body.getD i (.Pass ⟨0, 0, 0, 0⟩)
abbrev s_wall : Stmt := top 0
abbrev c_PaneError : Stmt := top 2
abbrev c_BadNumber : Stmt := top 3
abbrev s_BadNumber_init : Stmt := inClass (top 3) 0
abbrev c_BadText : Stmt := top 4
abbrev s_BadText_init : Stmt := inClass (top 4) 0
abbrev s_is_integer : Stmt := top 7
abbrev s_is_plain : Stmt := top 8
abbrev s_shared_divisor : Stmt := top 9
abbrev s_integer_in : Stmt := top 10
abbrev c_Amount : Stmt := top 11
abbrev s_Amount_init : Stmt := inClass (top 11) 0
abbrev s_Amount_is_number : Stmt := inClass (top 11) 1
abbrev s_Amount_of : Stmt := inClass (top 11) 2
abbrev s_Amount_total : Stmt := inClass (top 11) 3
abbrev s_Amount_read : Stmt := inClass (top 11) 4
abbrev s_Amount_per : Stmt := inClass (top 11) 5
abbrev s_Amount_add : Stmt := inClass (top 11) 6
abbrev s_Amount_radd : Stmt := inClass (top 11) 7
abbrev s_Amount_sub : Stmt := inClass (top 11) 8
abbrev s_Amount_rsub : Stmt := inClass (top 11) 9
abbrev s_Amount_mul : Stmt := inClass (top 11) 10
abbrev s_Amount_rmul : Stmt := inClass (top 11) 11
abbrev s_Amount_floordiv : Stmt := inClass (top 11) 12
abbrev s_Amount_rfloordiv : Stmt := inClass (top 11) 13
abbrev s_Amount_mod : Stmt := inClass (top 11) 14
abbrev s_Amount_rmod : Stmt := inClass (top 11) 15
abbrev s_Amount_neg : Stmt := inClass (top 11) 16
abbrev s_Amount_abs : Stmt := inClass (top 11) 17
abbrev s_Amount_bool : Stmt := inClass (top 11) 18
abbrev s_Amount_eq : Stmt := inClass (top 11) 19
abbrev s_Amount_lt : Stmt := inClass (top 11) 20
abbrev s_Amount_le : Stmt := inClass (top 11) 21
abbrev s_Amount_gt : Stmt := inClass (top 11) 22
abbrev s_Amount_ge : Stmt := inClass (top 11) 23
abbrev s_Amount_str : Stmt := inClass (top 11) 24
abbrev s_divisor_of : Stmt := top 12
abbrev s_law_pen : Stmt := top 14
abbrev s_law_draw : Stmt := top 15
abbrev s_law_pick : Stmt := top 16
abbrev s_law_pair : Stmt := top 17
abbrev s_law_low : Stmt := top 18
abbrev s_law_made : Stmt := top 19
abbrev s_law_operand : Stmt := top 20
abbrev s_law_is : Stmt := top 21
abbrev s_law_sums_right : Stmt := top 22
abbrev s_law_parts_right : Stmt := top 23
abbrev s_law_is_refused : Stmt := top 24
abbrev s_law_quotients_right : Stmt := top 25
abbrev s_law_in_place_right : Stmt := top 26
abbrev s_law : Stmt := top 27
end SP
set_option Elab.async false
set_option linter.all false
set_option maxRecDepth 100000
set_option maxHeartbeats 1000000
namespace MP
open PySem PySem.Spec PyProof.Rows L2 SP
section
variable {P : Program} {w : World} {G : Gc} {mg : Str → Option Value} {base : Heap} {f : Addr} {cdv : Value} {A : Around} {outer : List Env} {s : Shared} {H : Hp} {E : XK} {k : Nat} {run : Str → List D → MM D}
theorem sc_is_integer : FnScope n_is_integer ["value"] (defScope s_is_integer) := ⟨rfl, rfl, rfl, by decide +kernel, rfl, by decide +kernel, by decide +kernel⟩
theorem ok_is_integer (N : En G (bx P w G mg base n_is_integer "is_integer" (defScope s_is_integer) f cdv A outer s H E) (wOf E) k (sta run)) : EvSs G (bx P w G mg base n_is_integer "is_integer" (defScope s_is_integer) f cdv A outer s H E) (wOf E) (defBody s_is_integer) (b_is_integer (sta run)) :=
  have nd := sc_is_integer.nd
  evs_one (ev_retF (ev_and (ev_callB (c_isinstance N) rfl (N.free g_isinstance) boot_isinstance (ea_cons (ev_var rfl (vis_of rfl)) (ea_cons (ev_tyN N g_int rfl boot_int) ea_nil))) (ev_one (ev_not (ev_callB (c_isinstance N) rfl (N.free g_isinstance) boot_isinstance (ea_cons (ev_var rfl (vis_of rfl)) (ea_cons (ev_tyN N g_bool rfl boot_bool) ea_nil)))))))
theorem sc_is_plain : FnScope n_is_plain ["value"] (defScope s_is_plain) := ⟨rfl, rfl, rfl, by decide +kernel, rfl, by decide +kernel, by decide +kernel⟩
theorem ok_is_plain (N : En G (bx P w G mg base n_is_plain "is_plain" (defScope s_is_plain) f cdv A outer s H E) (wOf E) k (sta run)) : EvSs G (bx P w G mg base n_is_plain "is_plain" (defScope s_is_plain) f cdv A outer s H E) (wOf E) (defBody s_is_plain) (b_is_plain (sta run)) :=
  have nd := sc_is_plain.nd
  evs_one (ev_retF (ev_or (ev_cmp (s_cIs N) (ev_var rfl (vis_of rfl)) ev_non rfl) (ev_one (ev_callB (c_isinstance N) rfl (N.free g_isinstance) boot_isinstance (ea_cons (ev_var rfl (vis_of rfl)) (ea_cons (ev_tup (ea_cons (ev_tyN N g_bool rfl boot_bool) (ea_cons (ev_tyN N g_int rfl boot_int) (ea_cons (ev_tyN N g_str rfl boot_str) (ea_cons (ev_tyN N g_list rfl boot_list) (ea_cons (ev_tyN N g_tuple rfl boot_tuple) (ea_cons (ev_tyN N g_dict rfl boot_dict) ea_nil))))))) ea_nil))))))
theorem sc_shared_divisor : FnScope n_shared_divisor ["one", "other"] (defScope s_shared_divisor) := ⟨rfl, rfl, rfl, by decide +kernel, rfl, by decide +kernel, by decide +kernel⟩
theorem ok_shared_divisor (N : En G (bx P w G mg base n_shared_divisor "shared_divisor" (defScope s_shared_divisor) f cdv A outer s H E) (wOf E) k (sta run)) : EvSs G (bx P w G mg base n_shared_divisor "shared_divisor" (defScope s_shared_divisor) f cdv A outer s H E) (wOf E) (defBody s_shared_divisor) (b_shared_divisor (sta run)) :=
  have nd := sc_shared_divisor.nd
  evs_cons (ev_while N.po (et_cmp (s_cNe N) (ev_var rfl (vis_of rfl)) ev_int rfl) (evs_one (ev_par N.calm nd rfl rfl (by decide) rfl rfl (by exact ea_cons (ev_var rfl (vis_of rfl)) (ea_cons (ev_op (s_bMod N) (ev_var rfl (vis_of rfl)) (ev_var rfl (vis_of rfl))) ea_nil)) rfl))) (evs_one (ev_retF (ev_var rfl (vis_of rfl))))
theorem sc_Amount_init : FnScope n_Amount_init ["self", "top", "bottom"] (defScope s_Amount_init) := ⟨rfl, rfl, rfl, by decide +kernel, rfl, by decide +kernel, by decide +kernel⟩
theorem ok_Amount_init (N : En G (bx P w G mg base n_Amount_init "Amount.__init__" (defScope s_Amount_init) f cdv A outer s H E) (wOf E) k (sta run)) : EvSs G (bx P w G mg base n_Amount_init "Amount.__init__" (defScope s_Amount_init) f cdv A outer s H E) (wOf E) (defBody s_Amount_init) (b_Amount_init (sta run)) :=
  have nd := sc_Amount_init.nd
  evs_cons (ev_ifS (et_not (et_val (s_truM N) (ev_callN N g_is_integer rfl (ea_cons (ev_var rfl (vis_of rfl)) ea_nil)))) (evs_one (ev_raise N x_BadNumber rfl (ea_cons (ev_var rfl (vis_of rfl)) ea_nil))) evs_nil) (evs_cons (ev_ifS (et_w (ew_or (et_not (et_val (s_truM N) (ev_callN N g_is_integer rfl (ea_cons (ev_var rfl (vis_of rfl)) ea_nil)))) (ew_or1 (et_cmp (s_cEq N) (ev_var rfl (vis_of rfl)) ev_int rfl)))) (evs_one (ev_raise N x_BadNumber rfl (ea_cons (ev_var rfl (vis_of rfl)) ea_nil))) evs_nil) (evs_cons (ev_set nd rfl (loc_of rfl) (ev_callN N g_shared_divisor rfl (ea_cons (ev_callB (c_abs N) rfl (N.free g_abs) boot_abs (ea_cons (ev_var rfl (vis_of rfl)) ea_nil)) (ea_cons (ev_callB (c_abs N) rfl (N.free g_abs) boot_abs (ea_cons (ev_var rfl (vis_of rfl)) ea_nil)) ea_nil)))) (evs_cons (ev_ifS (et_cmp (s_cLt N) (ev_var rfl (vis_of rfl)) ev_int rfl) (evs_one (ev_set nd rfl (loc_of rfl) (ev_un (s_uNeg N) (ev_var rfl (vis_of rfl))))) evs_nil) (evs_cons (ev_fld N (ev_var rfl (vis_of rfl)) (ev_op (s_bDiv N) (ev_var rfl (vis_of rfl)) (ev_var rfl (vis_of rfl)))) (evs_one (ev_fld N (ev_var rfl (vis_of rfl)) (ev_op (s_bDiv N) (ev_var rfl (vis_of rfl)) (ev_var rfl (vis_of rfl)))))))))
theorem sc_Amount_is_number : FnScope n_Amount_is_number ["value"] (defScope s_Amount_is_number) := ⟨rfl, rfl, rfl, by decide +kernel, rfl, by decide +kernel, by decide +kernel⟩
theorem ok_Amount_is_number (N : En G (bx P w G mg base n_Amount_is_number "Amount.is_number" (defScope s_Amount_is_number) f cdv A outer s H E) (wOf E) k (sta run)) : EvSs G (bx P w G mg base n_Amount_is_number "Amount.is_number" (defScope s_Amount_is_number) f cdv A outer s H E) (wOf E) (defBody s_Amount_is_number) (b_Amount_is_number (sta run)) :=
  have nd := sc_Amount_is_number.nd
  evs_one (ev_retF (ev_or (ev_callB (c_isinstance N) rfl (N.free g_isinstance) boot_isinstance (ea_cons (ev_var rfl (vis_of rfl)) (ea_cons (ev_gloN N gb_Amount rfl) ea_nil))) (ev_one (ev_callN N g_is_integer rfl (ea_cons (ev_var rfl (vis_of rfl)) ea_nil)))))
theorem sc_Amount_of : FnScope n_Amount_of ["number"] (defScope s_Amount_of) := ⟨rfl, rfl, rfl, by decide +kernel, rfl, by decide +kernel, by decide +kernel⟩
theorem ok_Amount_of (N : En G (bx P w G mg base n_Amount_of "Amount.of" (defScope s_Amount_of) f cdv A outer s H E) (wOf E) k (sta run)) : EvSs G (bx P w G mg base n_Amount_of "Amount.of" (defScope s_Amount_of) f cdv A outer s H E) (wOf E) (defBody s_Amount_of) (b_Amount_of (sta run)) :=
  have nd := sc_Amount_of.nd
  evs_cons (ev_ifS (et_val (s_truM N) (ev_callB (c_isinstance N) rfl (N.free g_isinstance) boot_isinstance (ea_cons (ev_var rfl (vis_of rfl)) (ea_cons (ev_gloN N gb_Amount rfl) ea_nil)))) (evs_one (ev_retF (ev_var rfl (vis_of rfl)))) evs_nil) (evs_cons (ev_ifS (et_not (et_val (s_truM N) (ev_callN N g_is_integer rfl (ea_cons (ev_var rfl (vis_of rfl)) ea_nil)))) (evs_one (ev_raise N x_BadNumber rfl (ea_cons (ev_var rfl (vis_of rfl)) ea_nil))) evs_nil) (evs_one (ev_retF (ev_makeN N g_Amount rfl (ea_cons (ev_var rfl (vis_of rfl)) ea_nil)))))
theorem sc_Amount_per : FnScope n_Amount_per ["self", "number"] (defScope s_Amount_per) := ⟨rfl, rfl, rfl, by decide +kernel, rfl, by decide +kernel, by decide +kernel⟩
theorem ok_Amount_per (N : En G (bx P w G mg base n_Amount_per "Amount.per" (defScope s_Amount_per) f cdv A outer s H E) (wOf E) k (sta run)) : EvSs G (bx P w G mg base n_Amount_per "Amount.per" (defScope s_Amount_per) f cdv A outer s H E) (wOf E) (defBody s_Amount_per) (b_Amount_per (sta run)) :=
  have nd := sc_Amount_per.nd
  evs_cons (ev_set nd rfl (loc_of rfl) (ev_meth N (ev_gloN N gb_Amount rfl) (ea_cons (ev_var rfl (vis_of rfl)) ea_nil))) (evs_cons (ev_ifS (et_cmp (s_cEq N) (ev_attr N (ev_var rfl (vis_of rfl))) ev_int rfl) (evs_one (ev_raise N x_BadNumber rfl (ea_cons (ev_var rfl (vis_of rfl)) ea_nil))) evs_nil) (evs_one (ev_retF (ev_makeN N g_Amount rfl (ea_cons (ev_op (s_bMul N) (ev_attr N (ev_var rfl (vis_of rfl))) (ev_attr N (ev_var rfl (vis_of rfl)))) (ea_cons (ev_op (s_bMul N) (ev_attr N (ev_var rfl (vis_of rfl))) (ev_attr N (ev_var rfl (vis_of rfl)))) ea_nil))))))
theorem sc_Amount_add : FnScope n_Amount_add ["self", "other"] (defScope s_Amount_add) := ⟨rfl, rfl, rfl, by decide +kernel, rfl, by decide +kernel, by decide +kernel⟩
theorem ok_Amount_add (N : En G (bx P w G mg base n_Amount_add "Amount.__add__" (defScope s_Amount_add) f cdv A outer s H E) (wOf E) k (sta run)) : EvSs G (bx P w G mg base n_Amount_add "Amount.__add__" (defScope s_Amount_add) f cdv A outer s H E) (wOf E) (defBody s_Amount_add) (b_Amount_add (sta run)) :=
  have nd := sc_Amount_add.nd
  evs_cons (ev_ifS (et_w (ew_and (et_not (et_val (s_truM N) (ev_meth N (ev_gloN N gb_Amount rfl) (ea_cons (ev_var rfl (vis_of rfl)) ea_nil)))) (ew_and1 (et_not (et_val (s_truM N) (ev_callN N g_is_plain rfl (ea_cons (ev_var rfl (vis_of rfl)) ea_nil))))))) (evs_one (ev_retF ev_bad)) evs_nil) (evs_cons (ev_set nd rfl (loc_of rfl) (ev_meth N (ev_gloN N gb_Amount rfl) (ea_cons (ev_var rfl (vis_of rfl)) ea_nil))) (evs_one (ev_retF (ev_makeN N g_Amount rfl (ea_cons (ev_op (s_bAdd N) (ev_op (s_bMul N) (ev_attr N (ev_var rfl (vis_of rfl))) (ev_attr N (ev_var rfl (vis_of rfl)))) (ev_op (s_bMul N) (ev_attr N (ev_var rfl (vis_of rfl))) (ev_attr N (ev_var rfl (vis_of rfl))))) (ea_cons (ev_op (s_bMul N) (ev_attr N (ev_var rfl (vis_of rfl))) (ev_attr N (ev_var rfl (vis_of rfl)))) ea_nil))))))
theorem sc_Amount_radd : FnScope n_Amount_radd ["self", "other"] (defScope s_Amount_radd) := ⟨rfl, rfl, rfl, by decide +kernel, rfl, by decide +kernel, by decide +kernel⟩
theorem ok_Amount_radd (N : En G (bx P w G mg base n_Amount_radd "Amount.__radd__" (defScope s_Amount_radd) f cdv A outer s H E) (wOf E) k (sta run)) : EvSs G (bx P w G mg base n_Amount_radd "Amount.__radd__" (defScope s_Amount_radd) f cdv A outer s H E) (wOf E) (defBody s_Amount_radd) (b_Amount_radd (sta run)) :=
  have nd := sc_Amount_radd.nd
  evs_one (ev_retF (ev_op (s_bAdd N) (ev_var rfl (vis_of rfl)) (ev_var rfl (vis_of rfl))))
theorem sc_Amount_sub : FnScope n_Amount_sub ["self", "other"] (defScope s_Amount_sub) := ⟨rfl, rfl, rfl, by decide +kernel, rfl, by decide +kernel, by decide +kernel⟩
theorem ok_Amount_sub (N : En G (bx P w G mg base n_Amount_sub "Amount.__sub__" (defScope s_Amount_sub) f cdv A outer s H E) (wOf E) k (sta run)) : EvSs G (bx P w G mg base n_Amount_sub "Amount.__sub__" (defScope s_Amount_sub) f cdv A outer s H E) (wOf E) (defBody s_Amount_sub) (b_Amount_sub (sta run)) :=
  have nd := sc_Amount_sub.nd
  evs_cons (ev_ifS (et_w (ew_and (et_not (et_val (s_truM N) (ev_meth N (ev_gloN N gb_Amount rfl) (ea_cons (ev_var rfl (vis_of rfl)) ea_nil)))) (ew_and1 (et_not (et_val (s_truM N) (ev_callN N g_is_plain rfl (ea_cons (ev_var rfl (vis_of rfl)) ea_nil))))))) (evs_one (ev_retF ev_bad)) evs_nil) (evs_cons (ev_set nd rfl (loc_of rfl) (ev_meth N (ev_gloN N gb_Amount rfl) (ea_cons (ev_var rfl (vis_of rfl)) ea_nil))) (evs_one (ev_retF (ev_makeN N g_Amount rfl (ea_cons (ev_op (s_bSub N) (ev_op (s_bMul N) (ev_attr N (ev_var rfl (vis_of rfl))) (ev_attr N (ev_var rfl (vis_of rfl)))) (ev_op (s_bMul N) (ev_attr N (ev_var rfl (vis_of rfl))) (ev_attr N (ev_var rfl (vis_of rfl))))) (ea_cons (ev_op (s_bMul N) (ev_attr N (ev_var rfl (vis_of rfl))) (ev_attr N (ev_var rfl (vis_of rfl)))) ea_nil))))))
theorem sc_Amount_rsub : FnScope n_Amount_rsub ["self", "other"] (defScope s_Amount_rsub) := ⟨rfl, rfl, rfl, by decide +kernel, rfl, by decide +kernel, by decide +kernel⟩
theorem ok_Amount_rsub (N : En G (bx P w G mg base n_Amount_rsub "Amount.__rsub__" (defScope s_Amount_rsub) f cdv A outer s H E) (wOf E) k (sta run)) : EvSs G (bx P w G mg base n_Amount_rsub "Amount.__rsub__" (defScope s_Amount_rsub) f cdv A outer s H E) (wOf E) (defBody s_Amount_rsub) (b_Amount_rsub (sta run)) :=
  have nd := sc_Amount_rsub.nd
  evs_one (ev_retF (ev_op (s_bAdd N) (ev_un (s_uNeg N) (ev_var rfl (vis_of rfl))) (ev_var rfl (vis_of rfl))))
theorem sc_Amount_mul : FnScope n_Amount_mul ["self", "other"] (defScope s_Amount_mul) := ⟨rfl, rfl, rfl, by decide +kernel, rfl, by decide +kernel, by decide +kernel⟩
theorem ok_Amount_mul (N : En G (bx P w G mg base n_Amount_mul "Amount.__mul__" (defScope s_Amount_mul) f cdv A outer s H E) (wOf E) k (sta run)) : EvSs G (bx P w G mg base n_Amount_mul "Amount.__mul__" (defScope s_Amount_mul) f cdv A outer s H E) (wOf E) (defBody s_Amount_mul) (b_Amount_mul (sta run)) :=
  have nd := sc_Amount_mul.nd
  evs_cons (ev_ifS (et_w (ew_and (et_not (et_val (s_truM N) (ev_meth N (ev_gloN N gb_Amount rfl) (ea_cons (ev_var rfl (vis_of rfl)) ea_nil)))) (ew_and1 (et_not (et_val (s_truM N) (ev_callN N g_is_plain rfl (ea_cons (ev_var rfl (vis_of rfl)) ea_nil))))))) (evs_one (ev_retF ev_bad)) evs_nil) (evs_cons (ev_set nd rfl (loc_of rfl) (ev_meth N (ev_gloN N gb_Amount rfl) (ea_cons (ev_var rfl (vis_of rfl)) ea_nil))) (evs_one (ev_retF (ev_makeN N g_Amount rfl (ea_cons (ev_op (s_bMul N) (ev_attr N (ev_var rfl (vis_of rfl))) (ev_attr N (ev_var rfl (vis_of rfl)))) (ea_cons (ev_op (s_bMul N) (ev_attr N (ev_var rfl (vis_of rfl))) (ev_attr N (ev_var rfl (vis_of rfl)))) ea_nil))))))
theorem sc_Amount_rmul : FnScope n_Amount_rmul ["self", "other"] (defScope s_Amount_rmul) := ⟨rfl, rfl, rfl, by decide +kernel, rfl, by decide +kernel, by decide +kernel⟩
theorem ok_Amount_rmul (N : En G (bx P w G mg base n_Amount_rmul "Amount.__rmul__" (defScope s_Amount_rmul) f cdv A outer s H E) (wOf E) k (sta run)) : EvSs G (bx P w G mg base n_Amount_rmul "Amount.__rmul__" (defScope s_Amount_rmul) f cdv A outer s H E) (wOf E) (defBody s_Amount_rmul) (b_Amount_rmul (sta run)) :=
  have nd := sc_Amount_rmul.nd
  evs_one (ev_retF (ev_op (s_bMul N) (ev_var rfl (vis_of rfl)) (ev_var rfl (vis_of rfl))))
theorem sc_Amount_floordiv : FnScope n_Amount_floordiv ["self", "other"] (defScope s_Amount_floordiv) := ⟨rfl, rfl, rfl, by decide +kernel, rfl, by decide +kernel, by decide +kernel⟩
theorem ok_Amount_floordiv (N : En G (bx P w G mg base n_Amount_floordiv "Amount.__floordiv__" (defScope s_Amount_floordiv) f cdv A outer s H E) (wOf E) k (sta run)) : EvSs G (bx P w G mg base n_Amount_floordiv "Amount.__floordiv__" (defScope s_Amount_floordiv) f cdv A outer s H E) (wOf E) (defBody s_Amount_floordiv) (b_Amount_floordiv (sta run)) :=
  have nd := sc_Amount_floordiv.nd
  evs_cons (ev_set nd rfl (loc_of rfl) (ev_meth N (ev_var rfl (vis_of rfl)) (ea_cons (ev_var rfl (vis_of rfl)) ea_nil))) (evs_one (ev_retF (ev_op (s_bDiv N) (ev_attr N (ev_var rfl (vis_of rfl))) (ev_attr N (ev_var rfl (vis_of rfl))))))
theorem sc_Amount_rfloordiv : FnScope n_Amount_rfloordiv ["self", "other"] (defScope s_Amount_rfloordiv) := ⟨rfl, rfl, rfl, by decide +kernel, rfl, by decide +kernel, by decide +kernel⟩
theorem ok_Amount_rfloordiv (N : En G (bx P w G mg base n_Amount_rfloordiv "Amount.__rfloordiv__" (defScope s_Amount_rfloordiv) f cdv A outer s H E) (wOf E) k (sta run)) : EvSs G (bx P w G mg base n_Amount_rfloordiv "Amount.__rfloordiv__" (defScope s_Amount_rfloordiv) f cdv A outer s H E) (wOf E) (defBody s_Amount_rfloordiv) (b_Amount_rfloordiv (sta run)) :=
  have nd := sc_Amount_rfloordiv.nd
  evs_one (ev_retF (ev_op (s_bDiv N) (ev_meth N (ev_gloN N gb_Amount rfl) (ea_cons (ev_var rfl (vis_of rfl)) ea_nil)) (ev_callN N g_divisor_of rfl (ea_cons (ev_var rfl (vis_of rfl)) ea_nil))))
theorem sc_Amount_mod : FnScope n_Amount_mod ["self", "other"] (defScope s_Amount_mod) := ⟨rfl, rfl, rfl, by decide +kernel, rfl, by decide +kernel, by decide +kernel⟩
theorem ok_Amount_mod (N : En G (bx P w G mg base n_Amount_mod "Amount.__mod__" (defScope s_Amount_mod) f cdv A outer s H E) (wOf E) k (sta run)) : EvSs G (bx P w G mg base n_Amount_mod "Amount.__mod__" (defScope s_Amount_mod) f cdv A outer s H E) (wOf E) (defBody s_Amount_mod) (b_Amount_mod (sta run)) :=
  have nd := sc_Amount_mod.nd
  evs_one (ev_retF (ev_op (s_bSub N) (ev_var rfl (vis_of rfl)) (ev_op (s_bMul N) (ev_meth N (ev_gloN N gb_Amount rfl) (ea_cons (ev_var rfl (vis_of rfl)) ea_nil)) (ev_op (s_bDiv N) (ev_var rfl (vis_of rfl)) (ev_var rfl (vis_of rfl))))))
theorem sc_Amount_rmod : FnScope n_Amount_rmod ["self", "other"] (defScope s_Amount_rmod) := ⟨rfl, rfl, rfl, by decide +kernel, rfl, by decide +kernel, by decide +kernel⟩
theorem ok_Amount_rmod (N : En G (bx P w G mg base n_Amount_rmod "Amount.__rmod__" (defScope s_Amount_rmod) f cdv A outer s H E) (wOf E) k (sta run)) : EvSs G (bx P w G mg base n_Amount_rmod "Amount.__rmod__" (defScope s_Amount_rmod) f cdv A outer s H E) (wOf E) (defBody s_Amount_rmod) (b_Amount_rmod (sta run)) :=
  have nd := sc_Amount_rmod.nd
  evs_one (ev_retF (ev_op (s_bMod N) (ev_meth N (ev_gloN N gb_Amount rfl) (ea_cons (ev_var rfl (vis_of rfl)) ea_nil)) (ev_callN N g_divisor_of rfl (ea_cons (ev_var rfl (vis_of rfl)) ea_nil))))
theorem sc_Amount_neg : FnScope n_Amount_neg ["self"] (defScope s_Amount_neg) := ⟨rfl, rfl, rfl, by decide +kernel, rfl, by decide +kernel, by decide +kernel⟩
theorem ok_Amount_neg (N : En G (bx P w G mg base n_Amount_neg "Amount.__neg__" (defScope s_Amount_neg) f cdv A outer s H E) (wOf E) k (sta run)) : EvSs G (bx P w G mg base n_Amount_neg "Amount.__neg__" (defScope s_Amount_neg) f cdv A outer s H E) (wOf E) (defBody s_Amount_neg) (b_Amount_neg (sta run)) :=
  have nd := sc_Amount_neg.nd
  evs_one (ev_retF (ev_makeN N g_Amount rfl (ea_cons (ev_un (s_uNeg N) (ev_attr N (ev_var rfl (vis_of rfl)))) (ea_cons (ev_attr N (ev_var rfl (vis_of rfl))) ea_nil))))
theorem sc_Amount_abs : FnScope n_Amount_abs ["self"] (defScope s_Amount_abs) := ⟨rfl, rfl, rfl, by decide +kernel, rfl, by decide +kernel, by decide +kernel⟩
theorem ok_Amount_abs (N : En G (bx P w G mg base n_Amount_abs "Amount.__abs__" (defScope s_Amount_abs) f cdv A outer s H E) (wOf E) k (sta run)) : EvSs G (bx P w G mg base n_Amount_abs "Amount.__abs__" (defScope s_Amount_abs) f cdv A outer s H E) (wOf E) (defBody s_Amount_abs) (b_Amount_abs (sta run)) :=
  have nd := sc_Amount_abs.nd
  evs_one (ev_retF (ev_makeN N g_Amount rfl (ea_cons (ev_callB (c_abs N) rfl (N.free g_abs) boot_abs (ea_cons (ev_attr N (ev_var rfl (vis_of rfl))) ea_nil)) (ea_cons (ev_attr N (ev_var rfl (vis_of rfl))) ea_nil))))
theorem sc_Amount_bool : FnScope n_Amount_bool ["self"] (defScope s_Amount_bool) := ⟨rfl, rfl, rfl, by decide +kernel, rfl, by decide +kernel, by decide +kernel⟩
theorem ok_Amount_bool (N : En G (bx P w G mg base n_Amount_bool "Amount.__bool__" (defScope s_Amount_bool) f cdv A outer s H E) (wOf E) k (sta run)) : EvSs G (bx P w G mg base n_Amount_bool "Amount.__bool__" (defScope s_Amount_bool) f cdv A outer s H E) (wOf E) (defBody s_Amount_bool) (b_Amount_bool (sta run)) :=
  have nd := sc_Amount_bool.nd
  evs_one (ev_retF (ev_callT (c_bool N) rfl (N.free g_bool) boot_bool (ea_cons (ev_attr N (ev_var rfl (vis_of rfl))) ea_nil)))
theorem sc_Amount_eq : FnScope n_Amount_eq ["self", "other"] (defScope s_Amount_eq) := ⟨rfl, rfl, rfl, by decide +kernel, rfl, by decide +kernel, by decide +kernel⟩
theorem ok_Amount_eq (N : En G (bx P w G mg base n_Amount_eq "Amount.__eq__" (defScope s_Amount_eq) f cdv A outer s H E) (wOf E) k (sta run)) : EvSs G (bx P w G mg base n_Amount_eq "Amount.__eq__" (defScope s_Amount_eq) f cdv A outer s H E) (wOf E) (defBody s_Amount_eq) (b_Amount_eq (sta run)) :=
  have nd := sc_Amount_eq.nd
  evs_cons (ev_ifS (et_val (s_truM N) (ev_callB (c_isinstance N) rfl (N.free g_isinstance) boot_isinstance (ea_cons (ev_var rfl (vis_of rfl)) (ea_cons (ev_gloN N gb_Amount rfl) ea_nil)))) (evs_one (ev_retF (ev_and (ev_cmp (s_cEq N) (ev_attr N (ev_var rfl (vis_of rfl))) (ev_attr N (ev_var rfl (vis_of rfl))) rfl) (ev_one (ev_cmp (s_cEq N) (ev_attr N (ev_var rfl (vis_of rfl))) (ev_attr N (ev_var rfl (vis_of rfl))) rfl))))) evs_nil) (evs_one (ev_retF (ev_and (ev_callN N g_is_integer rfl (ea_cons (ev_var rfl (vis_of rfl)) ea_nil)) (ev_and (ev_cmp (s_cEq N) (ev_attr N (ev_var rfl (vis_of rfl))) ev_int rfl) (ev_one (ev_cmp (s_cEq N) (ev_attr N (ev_var rfl (vis_of rfl))) (ev_var rfl (vis_of rfl)) rfl))))))
theorem sc_Amount_lt : FnScope n_Amount_lt ["self", "other"] (defScope s_Amount_lt) := ⟨rfl, rfl, rfl, by decide +kernel, rfl, by decide +kernel, by decide +kernel⟩
theorem ok_Amount_lt (N : En G (bx P w G mg base n_Amount_lt "Amount.__lt__" (defScope s_Amount_lt) f cdv A outer s H E) (wOf E) k (sta run)) : EvSs G (bx P w G mg base n_Amount_lt "Amount.__lt__" (defScope s_Amount_lt) f cdv A outer s H E) (wOf E) (defBody s_Amount_lt) (b_Amount_lt (sta run)) :=
  have nd := sc_Amount_lt.nd
  evs_cons (ev_set nd rfl (loc_of rfl) (ev_meth N (ev_gloN N gb_Amount rfl) (ea_cons (ev_var rfl (vis_of rfl)) ea_nil))) (evs_one (ev_retF (ev_cmp (s_cLt N) (ev_op (s_bMul N) (ev_attr N (ev_var rfl (vis_of rfl))) (ev_attr N (ev_var rfl (vis_of rfl)))) (ev_op (s_bMul N) (ev_attr N (ev_var rfl (vis_of rfl))) (ev_attr N (ev_var rfl (vis_of rfl)))) rfl)))
theorem sc_Amount_le : FnScope n_Amount_le ["self", "other"] (defScope s_Amount_le) := ⟨rfl, rfl, rfl, by decide +kernel, rfl, by decide +kernel, by decide +kernel⟩
theorem ok_Amount_le (N : En G (bx P w G mg base n_Amount_le "Amount.__le__" (defScope s_Amount_le) f cdv A outer s H E) (wOf E) k (sta run)) : EvSs G (bx P w G mg base n_Amount_le "Amount.__le__" (defScope s_Amount_le) f cdv A outer s H E) (wOf E) (defBody s_Amount_le) (b_Amount_le (sta run)) :=
  have nd := sc_Amount_le.nd
  evs_cons (ev_set nd rfl (loc_of rfl) (ev_meth N (ev_gloN N gb_Amount rfl) (ea_cons (ev_var rfl (vis_of rfl)) ea_nil))) (evs_one (ev_retF (ev_cmp (s_cLe N) (ev_op (s_bMul N) (ev_attr N (ev_var rfl (vis_of rfl))) (ev_attr N (ev_var rfl (vis_of rfl)))) (ev_op (s_bMul N) (ev_attr N (ev_var rfl (vis_of rfl))) (ev_attr N (ev_var rfl (vis_of rfl)))) rfl)))
theorem sc_Amount_gt : FnScope n_Amount_gt ["self", "other"] (defScope s_Amount_gt) := ⟨rfl, rfl, rfl, by decide +kernel, rfl, by decide +kernel, by decide +kernel⟩
theorem ok_Amount_gt (N : En G (bx P w G mg base n_Amount_gt "Amount.__gt__" (defScope s_Amount_gt) f cdv A outer s H E) (wOf E) k (sta run)) : EvSs G (bx P w G mg base n_Amount_gt "Amount.__gt__" (defScope s_Amount_gt) f cdv A outer s H E) (wOf E) (defBody s_Amount_gt) (b_Amount_gt (sta run)) :=
  have nd := sc_Amount_gt.nd
  evs_cons (ev_set nd rfl (loc_of rfl) (ev_meth N (ev_gloN N gb_Amount rfl) (ea_cons (ev_var rfl (vis_of rfl)) ea_nil))) (evs_one (ev_retF (ev_cmp (s_cGt N) (ev_op (s_bMul N) (ev_attr N (ev_var rfl (vis_of rfl))) (ev_attr N (ev_var rfl (vis_of rfl)))) (ev_op (s_bMul N) (ev_attr N (ev_var rfl (vis_of rfl))) (ev_attr N (ev_var rfl (vis_of rfl)))) rfl)))
theorem sc_Amount_ge : FnScope n_Amount_ge ["self", "other"] (defScope s_Amount_ge) := ⟨rfl, rfl, rfl, by decide +kernel, rfl, by decide +kernel, by decide +kernel⟩
theorem ok_Amount_ge (N : En G (bx P w G mg base n_Amount_ge "Amount.__ge__" (defScope s_Amount_ge) f cdv A outer s H E) (wOf E) k (sta run)) : EvSs G (bx P w G mg base n_Amount_ge "Amount.__ge__" (defScope s_Amount_ge) f cdv A outer s H E) (wOf E) (defBody s_Amount_ge) (b_Amount_ge (sta run)) :=
  have nd := sc_Amount_ge.nd
  evs_cons (ev_set nd rfl (loc_of rfl) (ev_meth N (ev_gloN N gb_Amount rfl) (ea_cons (ev_var rfl (vis_of rfl)) ea_nil))) (evs_one (ev_retF (ev_cmp (s_cGe N) (ev_op (s_bMul N) (ev_attr N (ev_var rfl (vis_of rfl))) (ev_attr N (ev_var rfl (vis_of rfl)))) (ev_op (s_bMul N) (ev_attr N (ev_var rfl (vis_of rfl))) (ev_attr N (ev_var rfl (vis_of rfl)))) rfl)))
theorem sc_Amount_str : FnScope n_Amount_str ["self"] (defScope s_Amount_str) := ⟨rfl, rfl, rfl, by decide +kernel, rfl, by decide +kernel, by decide +kernel⟩
theorem ok_Amount_str (N : En G (bx P w G mg base n_Amount_str "Amount.__str__" (defScope s_Amount_str) f cdv A outer s H E) (wOf E) k (sta run)) : EvSs G (bx P w G mg base n_Amount_str "Amount.__str__" (defScope s_Amount_str) f cdv A outer s H E) (wOf E) (defBody s_Amount_str) (b_Amount_str (sta run)) :=
  have nd := sc_Amount_str.nd
  evs_cons (ev_ifS (et_cmp (s_cEq N) (ev_attr N (ev_var rfl (vis_of rfl))) ev_int rfl) (evs_one (ev_retF (ev_callT (c_str N) rfl (N.free g_str) boot_str (ea_cons (ev_attr N (ev_var rfl (vis_of rfl))) ea_nil)))) evs_nil) (evs_one (ev_retF (ev_js (.cons (ev_fmt N (ev_attr N (ev_var rfl (vis_of rfl)))) (.cons ev_str (.cons (ev_fmt N (ev_attr N (ev_var rfl (vis_of rfl)))) .nil))))))
theorem sc_divisor_of : FnScope n_divisor_of ["amount"] (defScope s_divisor_of) := ⟨rfl, rfl, rfl, by decide +kernel, rfl, by decide +kernel, by decide +kernel⟩
theorem ok_divisor_of (N : En G (bx P w G mg base n_divisor_of "divisor_of" (defScope s_divisor_of) f cdv A outer s H E) (wOf E) k (sta run)) : EvSs G (bx P w G mg base n_divisor_of "divisor_of" (defScope s_divisor_of) f cdv A outer s H E) (wOf E) (defBody s_divisor_of) (b_divisor_of (sta run)) :=
  have nd := sc_divisor_of.nd
  evs_cons (ev_ifS (et_cmp (s_cEq N) (ev_attr N (ev_var rfl (vis_of rfl))) ev_int rfl) (evs_one (ev_raise N x_BadNumber rfl (ea_cons (ev_var rfl (vis_of rfl)) ea_nil))) evs_nil) (evs_one (ev_retF (ev_var rfl (vis_of rfl))))
theorem sc_law_pen : FnScope n_law_pen ["_law_script"] (defScope s_law_pen) := ⟨rfl, rfl, rfl, by decide +kernel, rfl, by decide +kernel, by decide +kernel⟩
theorem ok_law_pen (N : En G (bx P w G mg base n_law_pen "_law_pen" (defScope s_law_pen) f cdv A outer s H E) (wOf E) k (sta run)) : EvSs G (bx P w G mg base n_law_pen "_law_pen" (defScope s_law_pen) f cdv A outer s H E) (wOf E) (defBody s_law_pen) (b_law_pen (sta run)) :=
  have nd := sc_law_pen.nd
  evs_one (ev_ret (ev_lstM (ea_cons (ev_callT (c_list N) rfl (N.free g_list) boot_list (ea_cons (ev_sl (ev_var rfl (vis_of rfl)) eo_none (eo_some ev_int)) ea_nil)) (ea_cons ev_int (ea_cons ev_int ea_nil)))))
theorem sc_law_draw : FnScope n_law_draw ["_law_pen_here", "_law_many"] (defScope s_law_draw) := ⟨rfl, rfl, rfl, by decide +kernel, rfl, by decide +kernel, by decide +kernel⟩
theorem ok_law_draw (N : En G (bx P w G mg base n_law_draw "_law_draw" (defScope s_law_draw) f cdv A outer s H E) (wOf E) k (sta run)) : EvSs G (bx P w G mg base n_law_draw "_law_draw" (defScope s_law_draw) f cdv A outer s H E) (wOf E) (defBody s_law_draw) (b_law_draw (sta run)) :=
  have nd := sc_law_draw.nd
  evs_cons (ev_ifS (et_cmp (s_cGt N) (ev_ixT N (ev_var rfl (vis_of rfl)) ev_int (fun _ _ => rfl)) ev_int rfl) (evs_cons (ev_set nd rfl (loc_of rfl) (ev_op (s_bMod N) (ev_callT (c_int N) rfl (N.free g_int) boot_int (ea_cons (ev_ixT N (ev_var rfl (vis_of rfl)) ev_int (fun _ _ => rfl)) ea_nil)) (ev_var rfl (vis_of rfl)))) (evs_cons (ev_asg (ev_op (s_bDiv N) (ev_callT (c_int N) rfl (N.free g_int) boot_int (ea_cons (ev_ixT N (ev_var rfl (vis_of rfl)) ev_int (fun _ _ => rfl)) ea_nil)) (ev_var rfl (vis_of rfl))) (eg_sub (ev_var rfl (vis_of rfl)) ev_int)) (evs_one (ev_retF (ev_var rfl (vis_of rfl)))))) evs_nil) (evs_cons (ev_set nd rfl (loc_of rfl) (ev_ixT N (ev_var rfl (vis_of rfl)) ev_int (fun _ _ => rfl))) (evs_cons (ev_asg (ev_op (s_bAdd N) (ev_var rfl (vis_of rfl)) ev_int) (eg_sub (ev_var rfl (vis_of rfl)) ev_int)) (evs_cons (ev_set nd rfl (loc_of rfl) (ev_op (s_bAdd N) (ev_op (s_bMul N) ev_int (ev_var rfl (vis_of rfl))) ev_int)) (evs_cons (ev_ifS (et_cmp (s_cNe N) (ev_ixT N (ev_var rfl (vis_of rfl)) ev_int (fun _ _ => rfl)) (ev_lst ea_nil) rfl) (evs_one (ev_set nd rfl (loc_of rfl) (ev_ixT N (ev_ixT N (ev_var rfl (vis_of rfl)) ev_int (fun _ _ => rfl)) (ev_op (s_bMod N) (ev_callT (c_int N) rfl (N.free g_int) boot_int (ea_cons (ev_var rfl (vis_of rfl)) ea_nil)) (ev_callB (c_len N) rfl (N.free g_len) boot_len (ea_cons (ev_ixT N (ev_var rfl (vis_of rfl)) ev_int (fun _ _ => rfl)) ea_nil))) (fun _ _ => rfl)))) evs_nil) (evs_cons (ev_ifS (et_w (ew_and (et_cmp (s_cLt N) (ev_var rfl (vis_of rfl)) (ev_callB (c_len N) rfl (N.free g_len) boot_len (ea_cons (ev_ixT N (ev_var rfl (vis_of rfl)) ev_int (fun _ _ => rfl)) ea_nil)) rfl) (ew_and1 (et_cmp (s_cGe N) (ev_callB (c_abs N) rfl (N.free g_abs) boot_abs (ea_cons (ev_var rfl (vis_of rfl)) ea_nil)) (ev_op (s_bPow N) ev_int ev_int) rfl)))) (evs_cons (ev_set nd rfl (loc_of rfl) (ev_op (s_bAdd N) (ev_op (s_bMul N) ev_int (ev_op (s_bSub N) (ev_callB (c_abs N) rfl (N.free g_abs) boot_abs (ea_cons (ev_var rfl (vis_of rfl)) ea_nil)) (ev_op (s_bPow N) ev_int ev_int))) (ev_callT (c_int N) rfl (N.free g_int) boot_int (ea_cons (ev_cmp (s_cLt N) (ev_var rfl (vis_of rfl)) ev_int rfl) ea_nil)))) (evs_cons (ev_asg (ev_op (s_bDiv N) (ev_callT (c_int N) rfl (N.free g_int) boot_int (ea_cons (ev_var rfl (vis_of rfl)) ea_nil)) (ev_var rfl (vis_of rfl))) (eg_sub (ev_var rfl (vis_of rfl)) ev_int)) (evs_one (ev_retF (ev_op (s_bMod N) (ev_callT (c_int N) rfl (N.free g_int) boot_int (ea_cons (ev_var rfl (vis_of rfl)) ea_nil)) (ev_var rfl (vis_of rfl))))))) evs_nil) (evs_cons (ev_set nd rfl (loc_of rfl) (ev_op (s_bMod N) (ev_callT (c_int N) rfl (N.free g_int) boot_int (ea_cons (ev_op (s_bPow N) (ev_op (s_bAdd N) (ev_op (s_bAdd N) (ev_op (s_bMod N) (ev_callT (c_int N) rfl (N.free g_int) boot_int (ea_cons (ev_var rfl (vis_of rfl)) ea_nil)) ev_int) (ev_op (s_bMul N) ev_int (ev_var rfl (vis_of rfl)))) ev_int) ev_int) ea_nil)) ev_int)) (evs_cons (ev_set nd rfl (loc_of rfl) (ev_op (s_bMod N) (ev_callT (c_int N) rfl (N.free g_int) boot_int (ea_cons (ev_op (s_bPow N) (ev_op (s_bAdd N) (ev_op (s_bAdd N) (ev_op (s_bMul N) (ev_var rfl (vis_of rfl)) (ev_op (s_bAdd N) (ev_op (s_bMul N) ev_int (ev_var rfl (vis_of rfl))) ev_int)) (ev_op (s_bMul N) (ev_op (s_bMul N) ev_int (ev_var rfl (vis_of rfl))) (ev_var rfl (vis_of rfl)))) ev_int) ev_int) ea_nil)) ev_int)) (evs_one (ev_retF (ev_op (s_bMod N) (ev_callT (c_int N) rfl (N.free g_int) boot_int (ea_cons (ev_op (s_bDiv N) (ev_var rfl (vis_of rfl)) ev_int) ea_nil)) (ev_var rfl (vis_of rfl))))))))))))
theorem sc_law_pick : FnScope n_law_pick ["_law_pen_here", "_law_some"] (defScope s_law_pick) := ⟨rfl, rfl, rfl, by decide +kernel, rfl, by decide +kernel, by decide +kernel⟩
theorem ok_law_pick (N : En G (bx P w G mg base n_law_pick "_law_pick" (defScope s_law_pick) f cdv A outer s H E) (wOf E) k (sta run)) : EvSs G (bx P w G mg base n_law_pick "_law_pick" (defScope s_law_pick) f cdv A outer s H E) (wOf E) (defBody s_law_pick) (b_law_pick (sta run)) :=
  have nd := sc_law_pick.nd
  evs_one (ev_retF (ev_ixT N (ev_var rfl (vis_of rfl)) (ev_callN N g_law_draw rfl (ea_cons (ev_var rfl (vis_of rfl)) (ea_cons (ev_callB (c_len N) rfl (N.free g_len) boot_len (ea_cons (ev_var rfl (vis_of rfl)) ea_nil)) ea_nil))) (fun _ _ => rfl)))
theorem sc_law_pair : FnScope n_law_pair ["_law_pen_here"] (defScope s_law_pair) := ⟨rfl, rfl, rfl, by decide +kernel, rfl, by decide +kernel, by decide +kernel⟩
theorem ok_law_pair (N : En G (bx P w G mg base n_law_pair "_law_pair" (defScope s_law_pair) f cdv A outer s H E) (wOf E) k (sta run)) : EvSs G (bx P w G mg base n_law_pair "_law_pair" (defScope s_law_pair) f cdv A outer s H E) (wOf E) (defBody s_law_pair) (b_law_pair (sta run)) :=
  have nd := sc_law_pair.nd
  evs_cons (ev_set nd rfl (loc_of rfl) (ev_op (s_bPow N) ev_int ev_int)) (evs_cons (ev_set nd rfl (loc_of rfl) (ev_callN N g_law_pick rfl (ea_cons (ev_var rfl (vis_of rfl)) (ea_cons (ev_lst (ea_cons ev_int (ea_cons ev_int (ea_cons ev_int (ea_cons ev_int (ea_cons ev_int (ea_cons ev_int (ea_cons ev_int (ea_cons (ev_op (s_bSub N) (ev_op (s_bSub N) (ev_var rfl (vis_of rfl)) ev_int) (ev_callN N g_law_draw rfl (ea_cons (ev_var rfl (vis_of rfl)) (ea_cons ev_int ea_nil)))) (ea_cons (ev_callN N g_law_draw rfl (ea_cons (ev_var rfl (vis_of rfl)) (ea_cons (ev_var rfl (vis_of rfl)) ea_nil))) ea_nil)))))))))) ea_nil)))) (evs_cons (ev_set nd rfl (loc_of rfl) (ev_callN N g_law_pick rfl (ea_cons (ev_var rfl (vis_of rfl)) (ea_cons (ev_lst (ea_cons ev_int (ea_cons ev_int (ea_cons ev_int (ea_cons ev_int (ea_cons ev_int (ea_cons ev_int (ea_cons ev_int (ea_cons (ev_op (s_bSub N) (ev_var rfl (vis_of rfl)) ev_int) (ea_cons (ev_op (s_bAdd N) ev_int (ev_callN N g_law_draw rfl (ea_cons (ev_var rfl (vis_of rfl)) (ea_cons (ev_op (s_bSub N) (ev_var rfl (vis_of rfl)) ev_int) ea_nil)))) ea_nil)))))))))) ea_nil)))) (evs_one (ev_retF (ev_tup (ea_cons (ev_if (et_cmp (s_cEq N) (ev_callN N g_law_draw rfl (ea_cons (ev_var rfl (vis_of rfl)) (ea_cons ev_int ea_nil))) ev_int rfl) (ev_var rfl (vis_of rfl)) (ev_un (s_uNeg N) (ev_var rfl (vis_of rfl)))) (ea_cons (ev_var rfl (vis_of rfl)) ea_nil)))))))
theorem sc_law_low : FnScope n_law_low ["_law_upper", "_law_lower"] (defScope s_law_low) := ⟨rfl, rfl, rfl, by decide +kernel, rfl, by decide +kernel, by decide +kernel⟩
theorem ok_law_low (N : En G (bx P w G mg base n_law_low "_law_low" (defScope s_law_low) f cdv A outer s H E) (wOf E) k (sta run)) : EvSs G (bx P w G mg base n_law_low "_law_low" (defScope s_law_low) f cdv A outer s H E) (wOf E) (defBody s_law_low) (b_law_low (sta run)) :=
  have nd := sc_law_low.nd
  evs_cons (ev_par N.calm nd rfl rfl (by decide) rfl rfl (by exact ea_cons (ev_callB (c_abs N) rfl (N.free g_abs) boot_abs (ea_cons (ev_var rfl (vis_of rfl)) ea_nil)) (ea_cons (ev_callB (c_abs N) rfl (N.free g_abs) boot_abs (ea_cons (ev_var rfl (vis_of rfl)) ea_nil)) ea_nil)) rfl) (evs_cons (ev_while N.po (et_cmp (s_cGt N) (ev_var rfl (vis_of rfl)) ev_int rfl) (evs_one (ev_par N.calm nd rfl rfl (by decide) rfl rfl (by exact ea_cons (ev_var rfl (vis_of rfl)) (ea_cons (ev_op (s_bMod N) (ev_callT (c_int N) rfl (N.free g_int) boot_int (ea_cons (ev_var rfl (vis_of rfl)) ea_nil)) (ev_var rfl (vis_of rfl))) ea_nil)) rfl))) (evs_cons (ev_set nd rfl (loc_of rfl) (ev_if (et_cmp (s_cGt N) (ev_var rfl (vis_of rfl)) ev_int rfl) ev_int (ev_un (s_uNeg N) ev_int))) (evs_one (ev_retF (ev_tup (ea_cons (ev_op (s_bDiv N) (ev_op (s_bMul N) (ev_var rfl (vis_of rfl)) (ev_var rfl (vis_of rfl))) (ev_var rfl (vis_of rfl))) (ea_cons (ev_op (s_bDiv N) (ev_op (s_bMul N) (ev_var rfl (vis_of rfl)) (ev_var rfl (vis_of rfl))) (ev_var rfl (vis_of rfl))) ea_nil)))))))
theorem sc_law_made : FnScope n_law_made ["_law_pen_here", "_law_pair_here"] (defScope s_law_made) := ⟨rfl, rfl, rfl, by decide +kernel, rfl, by decide +kernel, by decide +kernel⟩
theorem ok_law_made (N : En G (bx P w G mg base n_law_made "_law_made" (defScope s_law_made) f cdv A outer s H E) (wOf E) k (sta run)) : EvSs G (bx P w G mg base n_law_made "_law_made" (defScope s_law_made) f cdv A outer s H E) (wOf E) (defBody s_law_made) (b_law_made (sta run)) :=
  have nd := sc_law_made.nd
  evs_cons (ev_set nd rfl (loc_of rfl) (ev_callN N g_law_pick rfl (ea_cons (ev_var rfl (vis_of rfl)) (ea_cons (ev_lst (ea_cons ev_int (ea_cons (ev_un (s_uNeg N) ev_int) ea_nil))) ea_nil)))) (evs_cons (ev_ifS (et_w (ew_and (et_cmp (s_cLt N) (ev_callB (c_abs N) rfl (N.free g_abs) boot_abs (ea_cons (ev_ixT N (ev_var rfl (vis_of rfl)) ev_int (fun _ _ => rfl)) ea_nil)) (ev_op (s_bPow N) ev_int ev_int) rfl) (ew_and1 (et_cmp (s_cLt N) (ev_ixT N (ev_var rfl (vis_of rfl)) ev_int (fun _ _ => rfl)) (ev_op (s_bPow N) ev_int ev_int) rfl)))) (evs_one (ev_set nd rfl (loc_of rfl) (ev_op (s_bMul N) (ev_var rfl (vis_of rfl)) (ev_callN N g_law_pick rfl (ea_cons (ev_var rfl (vis_of rfl)) (ea_cons (ev_lst (ea_cons ev_int (ea_cons ev_int (ea_cons ev_int (ea_cons ev_int ea_nil))))) ea_nil)))))) evs_nil) (evs_one (ev_retF (ev_makeN N g_Amount rfl (ea_cons (ev_op (s_bMul N) (ev_ixT N (ev_var rfl (vis_of rfl)) ev_int (fun _ _ => rfl)) (ev_var rfl (vis_of rfl))) (ea_cons (ev_op (s_bMul N) (ev_ixT N (ev_var rfl (vis_of rfl)) ev_int (fun _ _ => rfl)) (ev_var rfl (vis_of rfl))) ea_nil))))))
theorem sc_law_operand : FnScope n_law_operand ["_law_pen_here", "_law_pair_here"] (defScope s_law_operand) := ⟨rfl, rfl, rfl, by decide +kernel, rfl, by decide +kernel, by decide +kernel⟩
theorem ok_law_operand (N : En G (bx P w G mg base n_law_operand "_law_operand" (defScope s_law_operand) f cdv A outer s H E) (wOf E) k (sta run)) : EvSs G (bx P w G mg base n_law_operand "_law_operand" (defScope s_law_operand) f cdv A outer s H E) (wOf E) (defBody s_law_operand) (b_law_operand (sta run)) :=
  have nd := sc_law_operand.nd
  evs_cons (ev_asg (ev_callN N g_law_low rfl (ea_cons (ev_ixT N (ev_var rfl (vis_of rfl)) ev_int (fun _ _ => rfl)) (ea_cons (ev_ixT N (ev_var rfl (vis_of rfl)) ev_int (fun _ _ => rfl)) ea_nil))) (eg_tup N.calm (egs_cons (eg_name nd rfl (loc_of rfl)) (egs_cons (eg_name nd rfl (loc_of rfl)) egs_nil)) (gl_cons (gl_cons gl_nil)))) (evs_one (ev_retF (ev_if (et_w (ew_and (et_cmp (s_cEq N) (ev_var rfl (vis_of rfl)) ev_int rfl) (ew_and1 (et_cmp (s_cEq N) (ev_callN N g_law_draw rfl (ea_cons (ev_var rfl (vis_of rfl)) (ea_cons ev_int ea_nil))) ev_int rfl)))) (ev_var rfl (vis_of rfl)) (ev_callN N g_law_made rfl (ea_cons (ev_var rfl (vis_of rfl)) (ea_cons (ev_var rfl (vis_of rfl)) ea_nil))))))
theorem sc_law_is : FnScope n_law_is ["_law_found", "_law_upper", "_law_lower"] (defScope s_law_is) := ⟨rfl, rfl, rfl, by decide +kernel, rfl, by decide +kernel, by decide +kernel⟩
theorem ok_law_is (N : En G (bx P w G mg base n_law_is "_law_is" (defScope s_law_is) f cdv A outer s H E) (wOf E) k (sta run)) : EvSs G (bx P w G mg base n_law_is "_law_is" (defScope s_law_is) f cdv A outer s H E) (wOf E) (defBody s_law_is) (b_law_is (sta run)) :=
  have nd := sc_law_is.nd
  evs_one (ev_retF (ev_and (ev_callB (c_isinstance N) rfl (N.free g_isinstance) boot_isinstance (ea_cons (ev_var rfl (vis_of rfl)) (ea_cons (ev_gloN N gb_Amount rfl) ea_nil))) (ev_one (ev_cmp (s_cEq N) (ev_callB (c_repr N) rfl (N.free g_repr) boot_repr (ea_cons (ev_tup (ea_cons (ev_attr N (ev_var rfl (vis_of rfl))) (ea_cons (ev_attr N (ev_var rfl (vis_of rfl))) ea_nil))) ea_nil)) (ev_callB (c_repr N) rfl (N.free g_repr) boot_repr (ea_cons (ev_callN N g_law_low rfl (ea_cons (ev_var rfl (vis_of rfl)) (ea_cons (ev_var rfl (vis_of rfl)) ea_nil))) ea_nil)) rfl))))
theorem sc_law_sums_right : FnScope n_law_sums_right ["_law_one", "_law_other", "_law_thing", "_law_operand_here"] (defScope s_law_sums_right) := ⟨rfl, rfl, rfl, by decide +kernel, rfl, by decide +kernel, by decide +kernel⟩
theorem ok_law_sums_right (N : En G (bx P w G mg base n_law_sums_right "_law_sums_right" (defScope s_law_sums_right) f cdv A outer s H E) (wOf E) k (sta run)) : EvSs G (bx P w G mg base n_law_sums_right "_law_sums_right" (defScope s_law_sums_right) f cdv A outer s H E) (wOf E) (defBody s_law_sums_right) (b_law_sums_right (sta run)) :=
  have nd := sc_law_sums_right.nd
  evs_cons (ev_asg (ev_tup (ea_cons (ev_var rfl (vis_of rfl)) (ea_cons (ev_var rfl (vis_of rfl)) ea_nil))) (eg_tup N.calm (egs_cons (eg_tup N.calm (egs_cons (eg_name nd rfl (loc_of rfl)) (egs_cons (eg_name nd rfl (loc_of rfl)) egs_nil)) (gl_cons (gl_cons gl_nil))) (egs_cons (eg_tup N.calm (egs_cons (eg_name nd rfl (loc_of rfl)) (egs_cons (eg_name nd rfl (loc_of rfl)) egs_nil)) (gl_cons (gl_cons gl_nil))) egs_nil)) (gl_cons (gl_cons gl_nil)))) (evs_cons (ev_set nd rfl (loc_of rfl) (ev_lst (ea_cons (ev_op (s_bAdd N) (ev_var rfl (vis_of rfl)) (ev_var rfl (vis_of rfl))) (ea_cons (ev_op (s_bAdd N) (ev_var rfl (vis_of rfl)) (ev_var rfl (vis_of rfl))) (ea_cons (ev_op (s_bSub N) (ev_var rfl (vis_of rfl)) (ev_var rfl (vis_of rfl))) (ea_cons (ev_op (s_bSub N) (ev_var rfl (vis_of rfl)) (ev_var rfl (vis_of rfl))) (ea_cons (ev_op (s_bMul N) (ev_var rfl (vis_of rfl)) (ev_var rfl (vis_of rfl))) (ea_cons (ev_op (s_bMul N) (ev_var rfl (vis_of rfl)) (ev_var rfl (vis_of rfl))) ea_nil)))))))) (evs_cons (ev_set nd rfl (loc_of rfl) (ev_lst (ea_cons (ev_op (s_bAdd N) (ev_op (s_bMul N) (ev_var rfl (vis_of rfl)) (ev_var rfl (vis_of rfl))) (ev_op (s_bMul N) (ev_var rfl (vis_of rfl)) (ev_var rfl (vis_of rfl)))) (ea_cons (ev_op (s_bAdd N) (ev_op (s_bMul N) (ev_var rfl (vis_of rfl)) (ev_var rfl (vis_of rfl))) (ev_op (s_bMul N) (ev_var rfl (vis_of rfl)) (ev_var rfl (vis_of rfl)))) (ea_cons (ev_op (s_bSub N) (ev_op (s_bMul N) (ev_var rfl (vis_of rfl)) (ev_var rfl (vis_of rfl))) (ev_op (s_bMul N) (ev_var rfl (vis_of rfl)) (ev_var rfl (vis_of rfl)))) (ea_cons (ev_op (s_bSub N) (ev_op (s_bMul N) (ev_var rfl (vis_of rfl)) (ev_var rfl (vis_of rfl))) (ev_op (s_bMul N) (ev_var rfl (vis_of rfl)) (ev_var rfl (vis_of rfl)))) (ea_cons (ev_op (s_bMul N) (ev_var rfl (vis_of rfl)) (ev_var rfl (vis_of rfl))) (ea_cons (ev_op (s_bMul N) (ev_var rfl (vis_of rfl)) (ev_var rfl (vis_of rfl))) ea_nil)))))))) (evs_one (ev_retF (ev_cmp (s_cEq N) (ev_lc N.calm nd (ei_range1 rfl (N.free g_range) (ea_cons ev_int ea_nil)) (blk_of (own := [("_law_k", 10)]) rfl) (fun s H C cl fp => em_name nd rfl (loc_of rfl)) (fun s H C cl fp => ets_one (et_not (et_val (s_truM N.blk) (ev_callN N.blk g_law_is rfl (ea_cons (ev_ixT N.blk (ev_var rfl (vis_of rfl)) (ev_var rfl (vis_of rfl)) (fun _ _ => rfl)) (ea_cons (ev_ixT N.blk (ev_var rfl (vis_of rfl)) (ev_var rfl (vis_of rfl)) (fun _ _ => rfl)) (ea_cons (ev_op (s_bMul N.blk) (ev_var rfl (vis_of rfl)) (ev_var rfl (vis_of rfl))) ea_nil))))))) (fun s H C cl fp => ev_var rfl (vis_of rfl))) (ev_lst ea_nil) rfl)))))
theorem sc_law_parts_right : FnScope n_law_parts_right ["_law_one", "_law_other", "_law_told", "_law_whole", "_law_rest"] (defScope s_law_parts_right) := ⟨rfl, rfl, rfl, by decide +kernel, rfl, by decide +kernel, by decide +kernel⟩
theorem ok_law_parts_right (N : En G (bx P w G mg base n_law_parts_right "_law_parts_right" (defScope s_law_parts_right) f cdv A outer s H E) (wOf E) k (sta run)) : EvSs G (bx P w G mg base n_law_parts_right "_law_parts_right" (defScope s_law_parts_right) f cdv A outer s H E) (wOf E) (defBody s_law_parts_right) (b_law_parts_right (sta run)) :=
  have nd := sc_law_parts_right.nd
  evs_cons (ev_asg (ev_tup (ea_cons (ev_var rfl (vis_of rfl)) (ea_cons (ev_var rfl (vis_of rfl)) ea_nil))) (eg_tup N.calm (egs_cons (eg_tup N.calm (egs_cons (eg_name nd rfl (loc_of rfl)) (egs_cons (eg_name nd rfl (loc_of rfl)) egs_nil)) (gl_cons (gl_cons gl_nil))) (egs_cons (eg_tup N.calm (egs_cons (eg_name nd rfl (loc_of rfl)) (egs_cons (eg_name nd rfl (loc_of rfl)) egs_nil)) (gl_cons (gl_cons gl_nil))) egs_nil)) (gl_cons (gl_cons gl_nil)))) (evs_cons (ev_set nd rfl (loc_of rfl) (ev_op (s_bDiv N) (ev_op (s_bMul N) (ev_var rfl (vis_of rfl)) (ev_var rfl (vis_of rfl))) (ev_op (s_bMul N) (ev_var rfl (vis_of rfl)) (ev_var rfl (vis_of rfl))))) (evs_cons (ev_ifS (et_w (ew_or (et_not (et_val (s_truM N) (ev_callN N g_law_is rfl (ea_cons (ev_var rfl (vis_of rfl)) (ea_cons (ev_op (s_bMul N) (ev_var rfl (vis_of rfl)) (ev_var rfl (vis_of rfl))) (ea_cons (ev_op (s_bMul N) (ev_var rfl (vis_of rfl)) (ev_var rfl (vis_of rfl))) ea_nil)))))) (ew_or1 (et_cmp (s_cNe N) (ev_callB (c_repr N) rfl (N.free g_repr) boot_repr (ea_cons (ev_var rfl (vis_of rfl)) ea_nil)) (ev_callB (c_repr N) rfl (N.free g_repr) boot_repr (ea_cons (ev_var rfl (vis_of rfl)) ea_nil)) rfl)))) (evs_one (ev_retF ev_bl)) evs_nil) (evs_one (ev_retF (ev_callN N g_law_is rfl (ea_cons (ev_var rfl (vis_of rfl)) (ea_cons (ev_op (s_bSub N) (ev_op (s_bMul N) (ev_var rfl (vis_of rfl)) (ev_var rfl (vis_of rfl))) (ev_op (s_bMul N) (ev_op (s_bMul N) (ev_var rfl (vis_of rfl)) (ev_var rfl (vis_of rfl))) (ev_var rfl (vis_of rfl)))) (ea_cons (ev_op (s_bMul N) (ev_var rfl (vis_of rfl)) (ev_var rfl (vis_of rfl))) ea_nil))))))))
theorem sc_law_is_refused : FnScope n_law_is_refused ["_law_ask"] (defScope s_law_is_refused) := ⟨rfl, rfl, rfl, by decide +kernel, rfl, by decide +kernel, by decide +kernel⟩
theorem okh_law_is_refused {ask : MM D} (N : En G (bx P w G mg base n_law_is_refused "_law_is_refused" (defScope s_law_is_refused) f cdv A outer s H E) (wOf E) k (sta run)) (HA : AskC G (bx P w G mg base n_law_is_refused "_law_is_refused" (defScope s_law_is_refused) f cdv A outer s H E) k (sta run) "_law_ask" ask) : EvSs G (bx P w G mg base n_law_is_refused "_law_is_refused" (defScope s_law_is_refused) f cdv A outer s H E) (wOf E) (defBody s_law_is_refused) (hb_law_is_refused (sta run) ask) :=
  have nd := sc_law_is_refused.nd
  evs_cons (ev_set nd rfl (loc_of rfl) ev_non) (evs_cons (ev_try N (hN := nd) (hi := rfl) (hln := rfl) (hc := N.nam gb_PaneError rfl) (hb := by exact fun W pn xe N => evs_one (ev_expr (HA _ _ _ _ _ N))) (hsu := by exact fun a pn => evs_one (ev_set nd rfl (loc_of rfl) (ev_var rfl (vis_of rfl))))) (evs_one (ev_retF (ev_and (ev_callB (c_isinstance N) rfl (N.free g_isinstance) boot_isinstance (ea_cons (ev_var rfl (vis_of rfl)) (ea_cons (ev_gloN N gb_BadNumber rfl) ea_nil))) (ev_and (ev_cmp (s_cEq N) (ev_attr N (ev_var rfl (vis_of rfl))) ev_int rfl) (ev_one (ev_not (ev_callB (c_isinstance N) rfl (N.free g_isinstance) boot_isinstance (ea_cons (ev_attr N (ev_var rfl (vis_of rfl))) (ea_cons (ev_tyN N g_bool rfl boot_bool) ea_nil))))))))))
theorem ok_law_is_refused (N : En G (bx P w G mg base n_law_is_refused "_law_is_refused" (defScope s_law_is_refused) f cdv A outer s H E) (wOf E) k (sta run)) : EvSs G (bx P w G mg base n_law_is_refused "_law_is_refused" (defScope s_law_is_refused) f cdv A outer s H E) (wOf E) (defBody s_law_is_refused) (b_law_is_refused (sta run)) :=
  have nd := sc_law_is_refused.nd
  evs_cons (ev_set nd rfl (loc_of rfl) ev_non) (evs_cons (ev_try N (hN := nd) (hi := rfl) (hln := rfl) (hc := N.nam gb_PaneError rfl) (hb := by exact fun W pn xe N => evs_one (ev_expr ev_bad)) (hsu := by exact fun a pn => evs_one (ev_set nd rfl (loc_of rfl) (ev_var rfl (vis_of rfl))))) (evs_one (ev_retF (ev_and (ev_callB (c_isinstance N) rfl (N.free g_isinstance) boot_isinstance (ea_cons (ev_var rfl (vis_of rfl)) (ea_cons (ev_gloN N gb_BadNumber rfl) ea_nil))) (ev_and (ev_cmp (s_cEq N) (ev_attr N (ev_var rfl (vis_of rfl))) ev_int rfl) (ev_one (ev_not (ev_callB (c_isinstance N) rfl (N.free g_isinstance) boot_isinstance (ea_cons (ev_attr N (ev_var rfl (vis_of rfl))) (ea_cons (ev_tyN N g_bool rfl boot_bool) ea_nil))))))))))
theorem sc_law_quotients_right : FnScope n_law_quotients_right ["_law_one", "_law_other", "_law_thing", "_law_operand_here"] (defScope s_law_quotients_right) := ⟨rfl, rfl, rfl, by decide +kernel, rfl, by decide +kernel, by decide +kernel⟩
theorem ok_law_quotients_right (N : En G (bx P w G mg base n_law_quotients_right "_law_quotients_right" (defScope s_law_quotients_right) f cdv A outer s H E) (wOf E) k (sta run)) (M : LamN G (bx P w G mg base n_law_quotients_right "_law_quotients_right" (defScope s_law_quotients_right) f cdv A outer s H E) k) (HD_law_is_refused : HolD G "_law_is_refused" "_law_ask" (defBody s_law_is_refused) (defScope s_law_is_refused) n_law_is_refused) : EvSs G (bx P w G mg base n_law_quotients_right "_law_quotients_right" (defScope s_law_quotients_right) f cdv A outer s H E) (wOf E) (defBody s_law_quotients_right) (b_law_quotients_right (sta run)) :=
  have nd := sc_law_quotients_right.nd
  ev_guard [_, _, _, _, _] N M fun N M => evs_cons (ev_ifS (et_cmp (s_cEq N) (ev_ixT N (ev_var rfl (vis_of rfl)) ev_int (fun _ _ => rfl)) ev_int rfl) (evs_cons (ev_set nd rfl (loc_of rfl) (ev_lst (ea_cons (ev_lamV 0 N ⟨M.ex, M.rm⟩ rfl rfl (LamX.lamS_by rfl) rfl) (ea_cons (ev_lamV 1 N ⟨M.ex, M.rm⟩ rfl rfl (LamX.lamS_by rfl) rfl) (ea_cons (ev_lamV 2 N ⟨M.ex, M.rm⟩ rfl rfl (LamX.lamS_by rfl) rfl) ea_nil))))) (evs_one (ev_retF (ev_cmp (s_cEq N) (ev_lcI N.calm nd (ei_seqT (ev_var rfl (vis_of rfl))) (blk_of (own := [("_law_ask", 5)]) rfl) (fun s H C cl fp => em_name nd rfl (loc_of rfl)) (testIn_of fun _ _ _ _ _ _ _ IF hfp => eti_not (eti_val (s_truM N.blk) (ev_holeVi N ⟨M.ex, M.rm⟩ IF hfp HD_law_is_refused g_law_is_refused rfl rfl (vis_of rfl) rfl (lv_cons (LamX.lamS_by rfl) (fun _ _ _ _ _ => rfl) (fun e A outer s H E f c N => ev_meth N (ev_var rfl (vis_of rfl)) (ea_cons (ev_var rfl (vis_of rfl)) ea_nil)) (lv_cons (LamX.lamS_by rfl) (fun _ _ _ _ _ => rfl) (fun e A outer s H E f c N => ev_op (s_bDiv N) (ev_var rfl (vis_of rfl)) (ev_var rfl (vis_of rfl))) (lv_cons (LamX.lamS_by rfl) (fun _ _ _ _ _ => rfl) (fun e A outer s H E f c N => ev_op (s_bMod N) (ev_var rfl (vis_of rfl)) (ev_var rfl (vis_of rfl))) (lv_cons (LamX.lamS_by rfl) (fun _ _ _ _ _ => rfl) (fun e A outer s H E f c N => ev_op (s_bDiv N) (ev_var rfl (vis_of rfl)) (ev_var rfl (vis_of rfl))) (lv_cons (LamX.lamS_by rfl) (fun _ _ _ _ _ => rfl) (fun e A outer s H E f c N => ev_op (s_bMod N) (ev_var rfl (vis_of rfl)) (ev_var rfl (vis_of rfl))) lv_nil))))) (ev_var rfl (vis_of rfl)) (fun e ask cdv A outer s H E N HA => okh_law_is_refused N HA)))) (fun s H C cl fp => ev_var rfl (vis_of rfl))) (ev_lst ea_nil) rfl)))) evs_nil) (evs_cons (ev_ifS (et_not (et_val (s_truM N) (ev_callN N g_law_parts_right rfl (ea_cons (ev_var rfl (vis_of rfl)) (ea_cons (ev_var rfl (vis_of rfl)) (ea_cons (ev_methK N (ev_var rfl (vis_of rfl)) (ek_cons (ev_var rfl (vis_of rfl)) ek_nil)) (ea_cons (ev_op (s_bDiv N) (ev_var rfl (vis_of rfl)) (ev_var rfl (vis_of rfl))) (ea_cons (ev_op (s_bMod N) (ev_var rfl (vis_of rfl)) (ev_var rfl (vis_of rfl))) ea_nil)))))))) (evs_one (ev_retF ev_bl)) evs_nil) (evs_cons (ev_ifS (et_cmp (s_cEq N) (ev_ixT N (ev_var rfl (vis_of rfl)) ev_int (fun _ _ => rfl)) ev_int rfl) (evs_cons (ev_set nd rfl (loc_of rfl) (ev_lst (ea_cons (ev_lamV 3 N ⟨M.ex, M.rm⟩ rfl rfl (LamX.lamS_by rfl) rfl) (ea_cons (ev_lamV 4 N ⟨M.ex, M.rm⟩ rfl rfl (LamX.lamS_by rfl) rfl) ea_nil)))) (evs_one (ev_retF (ev_cmp (s_cEq N) (ev_lcI N.calm nd (ei_seqT (ev_var rfl (vis_of rfl))) (blk_of (own := [("_law_ask", 5)]) rfl) (fun s H C cl fp => em_name nd rfl (loc_of rfl)) (testIn_of fun _ _ _ _ _ _ _ IF hfp => eti_not (eti_val (s_truM N.blk) (ev_holeVi N ⟨M.ex, M.rm⟩ IF hfp HD_law_is_refused g_law_is_refused rfl rfl (vis_of rfl) rfl (lv_cons (LamX.lamS_by rfl) (fun _ _ _ _ _ => rfl) (fun e A outer s H E f c N => ev_meth N (ev_var rfl (vis_of rfl)) (ea_cons (ev_var rfl (vis_of rfl)) ea_nil)) (lv_cons (LamX.lamS_by rfl) (fun _ _ _ _ _ => rfl) (fun e A outer s H E f c N => ev_op (s_bDiv N) (ev_var rfl (vis_of rfl)) (ev_var rfl (vis_of rfl))) (lv_cons (LamX.lamS_by rfl) (fun _ _ _ _ _ => rfl) (fun e A outer s H E f c N => ev_op (s_bMod N) (ev_var rfl (vis_of rfl)) (ev_var rfl (vis_of rfl))) (lv_cons (LamX.lamS_by rfl) (fun _ _ _ _ _ => rfl) (fun e A outer s H E f c N => ev_op (s_bDiv N) (ev_var rfl (vis_of rfl)) (ev_var rfl (vis_of rfl))) (lv_cons (LamX.lamS_by rfl) (fun _ _ _ _ _ => rfl) (fun e A outer s H E f c N => ev_op (s_bMod N) (ev_var rfl (vis_of rfl)) (ev_var rfl (vis_of rfl))) lv_nil))))) (ev_var rfl (vis_of rfl)) (fun e ask cdv A outer s H E N HA => okh_law_is_refused N HA)))) (fun s H C cl fp => ev_var rfl (vis_of rfl))) (ev_lst ea_nil) rfl)))) evs_nil) (evs_one (ev_retF (ev_callN N g_law_parts_right rfl (ea_cons (ev_var rfl (vis_of rfl)) (ea_cons (ev_var rfl (vis_of rfl)) (ea_cons (ev_meth N (ev_meth N (ev_gloN N gb_Amount rfl) (ea_cons (ev_var rfl (vis_of rfl)) ea_nil)) (ea_cons (ev_var rfl (vis_of rfl)) ea_nil)) (ea_cons (ev_op (s_bDiv N) (ev_var rfl (vis_of rfl)) (ev_var rfl (vis_of rfl))) (ea_cons (ev_op (s_bMod N) (ev_var rfl (vis_of rfl)) (ev_var rfl (vis_of rfl))) ea_nil))))))))))
theorem sc_law_in_place_right : FnScope n_law_in_place_right ["_law_one", "_law_other", "_law_thing", "_law_operand_here"] (defScope s_law_in_place_right) := ⟨rfl, rfl, rfl, by decide +kernel, rfl, by decide +kernel, by decide +kernel⟩
theorem ok_law_in_place_right (N : En G (bx P w G mg base n_law_in_place_right "_law_in_place_right" (defScope s_law_in_place_right) f cdv A outer s H E) (wOf E) k (sta run)) : EvSs G (bx P w G mg base n_law_in_place_right "_law_in_place_right" (defScope s_law_in_place_right) f cdv A outer s H E) (wOf E) (defBody s_law_in_place_right) (b_law_in_place_right (sta run)) :=
  have nd := sc_law_in_place_right.nd
  evs_cons (ev_asg (ev_tup (ea_cons (ev_var rfl (vis_of rfl)) (ea_cons (ev_var rfl (vis_of rfl)) (ea_cons (ev_var rfl (vis_of rfl)) (ea_cons (ev_var rfl (vis_of rfl)) (ea_cons (ev_var rfl (vis_of rfl)) ea_nil)))))) (eg_tup N.calm (egs_cons (eg_name nd rfl (loc_of rfl)) (egs_cons (eg_name nd rfl (loc_of rfl)) (egs_cons (eg_name nd rfl (loc_of rfl)) (egs_cons (eg_name nd rfl (loc_of rfl)) (egs_cons (eg_name nd rfl (loc_of rfl)) egs_nil))))) (gl_cons (gl_cons (gl_cons (gl_cons (gl_cons gl_nil))))))) (evs_cons (ev_aug nd rfl (loc_of rfl) (s_iAddA N) (ev_var rfl (vis_of rfl))) (evs_cons (ev_aug nd rfl (loc_of rfl) (s_iSubA N) (ev_var rfl (vis_of rfl))) (evs_cons (ev_aug nd rfl (loc_of rfl) (s_iMulA N) (ev_var rfl (vis_of rfl))) (evs_cons (ev_ifS (et_w (ew_or (et_not (et_val (s_truM N) (ev_callN N g_law_is rfl (ea_cons (ev_var rfl (vis_of rfl)) (ea_cons (ev_ixT N (ev_var rfl (vis_of rfl)) ev_int (fun _ _ => rfl)) (ea_cons (ev_ixT N (ev_var rfl (vis_of rfl)) ev_int (fun _ _ => rfl)) ea_nil)))))) (ew_or (et_cmp (s_cNe N) (ev_var rfl (vis_of rfl)) (ev_op (s_bAdd N) (ev_var rfl (vis_of rfl)) (ev_var rfl (vis_of rfl))) rfl) (ew_or1 (et_cmp (s_cNe N) (ev_var rfl (vis_of rfl)) (ev_op (s_bSub N) (ev_var rfl (vis_of rfl)) (ev_var rfl (vis_of rfl))) rfl))))) (evs_one (ev_retF ev_bl)) evs_nil) (evs_cons (ev_ifS (et_cmp (s_cNe N) (ev_ixT N (ev_var rfl (vis_of rfl)) ev_int (fun _ _ => rfl)) ev_int rfl) (evs_cons (ev_aug nd rfl (loc_of rfl) (s_iDivA N) (ev_var rfl (vis_of rfl))) (evs_cons (ev_aug nd rfl (loc_of rfl) (s_iModA N) (ev_var rfl (vis_of rfl))) (evs_one (ev_ifS (et_w (ew_or (et_cmp (s_cNe N) (ev_var rfl (vis_of rfl)) (ev_op (s_bDiv N) (ev_var rfl (vis_of rfl)) (ev_var rfl (vis_of rfl))) rfl) (ew_or1 (et_cmp (s_cNe N) (ev_var rfl (vis_of rfl)) (ev_op (s_bMod N) (ev_var rfl (vis_of rfl)) (ev_var rfl (vis_of rfl))) rfl)))) (evs_one (ev_retF ev_bl)) evs_nil)))) evs_nil) (evs_one (ev_retF (ev_and (ev_cmp (s_cEq N) (ev_var rfl (vis_of rfl)) (ev_op (s_bMul N) (ev_var rfl (vis_of rfl)) (ev_var rfl (vis_of rfl))) rfl) (ev_one (ev_callN N g_law_is rfl (ea_cons (ev_var rfl (vis_of rfl)) (ea_cons (ev_ixT N (ev_var rfl (vis_of rfl)) ev_int (fun _ _ => rfl)) (ea_cons (ev_ixT N (ev_var rfl (vis_of rfl)) ev_int (fun _ _ => rfl)) ea_nil)))))))))))))
theorem sc_law : FnScope n_law ["_law_script"] (defScope s_law) := ⟨rfl, rfl, rfl, by decide +kernel, rfl, by decide +kernel, by decide +kernel⟩
theorem ok_law (N : En G (bx P w G mg base n_law "law" (defScope s_law) f cdv A outer s H E) (wOf E) k (sta run)) : EvSs G (bx P w G mg base n_law "law" (defScope s_law) f cdv A outer s H E) (wOf E) (defBody s_law) (b_law (sta run)) :=
  have nd := sc_law.nd
  evs_cons (ev_set nd rfl (loc_of rfl) (ev_callN N g_law_pen rfl (ea_cons (ev_var rfl (vis_of rfl)) ea_nil))) (evs_cons (ev_for N.po N.calm (ei_range1 rfl (N.free g_range) (ea_cons ev_int ea_nil)) (eg_name nd rfl (loc_of rfl)) (evs_cons (ev_par N.calm nd rfl rfl (by decide) rfl rfl (by exact ea_cons (ev_callN N g_law_pair rfl (ea_cons (ev_var rfl (vis_of rfl)) ea_nil)) (ea_cons (ev_callN N g_law_pair rfl (ea_cons (ev_var rfl (vis_of rfl)) ea_nil)) ea_nil)) rfl) (evs_cons (ev_par N.calm nd rfl rfl (by decide) rfl rfl (by exact ea_cons (ev_callN N g_law_made rfl (ea_cons (ev_var rfl (vis_of rfl)) (ea_cons (ev_var rfl (vis_of rfl)) ea_nil))) (ea_cons (ev_callN N g_law_operand rfl (ea_cons (ev_var rfl (vis_of rfl)) (ea_cons (ev_var rfl (vis_of rfl)) ea_nil))) ea_nil)) rfl) (evs_cons (ev_ifS (et_w (ew_or (et_not (et_val (s_truM N) (ev_callN N g_law_is rfl (ea_cons (ev_var rfl (vis_of rfl)) (ea_cons (ev_ixT N (ev_var rfl (vis_of rfl)) ev_int (fun _ _ => rfl)) (ea_cons (ev_ixT N (ev_var rfl (vis_of rfl)) ev_int (fun _ _ => rfl)) ea_nil)))))) (ew_or1 (et_not (et_val (s_truM N) (ev_callN N g_law_sums_right rfl (ea_cons (ev_var rfl (vis_of rfl)) (ea_cons (ev_var rfl (vis_of rfl)) (ea_cons (ev_var rfl (vis_of rfl)) (ea_cons (ev_var rfl (vis_of rfl)) ea_nil)))))))))) (evs_one (ev_retF ev_bl)) evs_nil) (evs_cons (ev_ifS (et_not (et_val (s_truM N) (ev_callN N g_law_quotients_right rfl (ea_cons (ev_var rfl (vis_of rfl)) (ea_cons (ev_var rfl (vis_of rfl)) (ea_cons (ev_var rfl (vis_of rfl)) (ea_cons (ev_var rfl (vis_of rfl)) ea_nil))))))) (evs_one (ev_retF ev_bl)) evs_nil) (evs_cons (ev_ifS (et_not (et_val (s_truM N) (ev_callN N g_law_in_place_right rfl (ea_cons (ev_var rfl (vis_of rfl)) (ea_cons (ev_var rfl (vis_of rfl)) (ea_cons (ev_var rfl (vis_of rfl)) (ea_cons (ev_var rfl (vis_of rfl)) ea_nil))))))) (evs_one (ev_retF ev_bl)) evs_nil) (evs_one (ev_ifS (et_w (ew_or (et_not (et_val (s_truM N) (ev_callN N g_law_is rfl (ea_cons (ev_un (s_uNeg N) (ev_var rfl (vis_of rfl))) (ea_cons (ev_un (s_uNeg N) (ev_ixT N (ev_var rfl (vis_of rfl)) ev_int (fun _ _ => rfl))) (ea_cons (ev_ixT N (ev_var rfl (vis_of rfl)) ev_int (fun _ _ => rfl)) ea_nil)))))) (ew_or1 (et_not (et_val (s_truM N) (ev_callN N g_law_is rfl (ea_cons (ev_callB (c_abs N) rfl (N.free g_abs) boot_abs (ea_cons (ev_var rfl (vis_of rfl)) ea_nil)) (ea_cons (ev_callB (c_abs N) rfl (N.free g_abs) boot_abs (ea_cons (ev_ixT N (ev_var rfl (vis_of rfl)) ev_int (fun _ _ => rfl)) ea_nil)) (ea_cons (ev_ixT N (ev_var rfl (vis_of rfl)) ev_int (fun _ _ => rfl)) ea_nil))))))))) (evs_one (ev_retF ev_bl)) evs_nil)))))))) (evs_one (ev_retF (ev_and (ev_callN N g_law_is rfl (ea_cons (ev_makeN N g_Amount rfl (ea_cons ev_int ea_nil)) (ea_cons ev_int (ea_cons ev_int ea_nil)))) (ev_one (ev_callN N g_law_is rfl (ea_cons (ev_makeK0N N g_Amount rfl (ek_cons (ev_un (s_uNeg N) ev_int) (ek_cons ev_int ek_nil))) (ea_cons (ev_un (s_uNeg N) ev_int) (ea_cons ev_int ea_nil)))))))))
end
end MP
set_option Elab.async false
set_option linter.all false
set_option maxRecDepth 100000
set_option maxHeartbeats 1000000
namespace MP
open PySem PySem.Spec PyProof.Rows L2 SP
open PySem.W (Frag)
abbrev Pr : Program := (PySem.Challenge.rw_slidpane_k01_amounts_reckoned).prog
def prFile : Str := Pr.main.file
section
variable {w : World} {K : Frag} {mg : Str → Option Value} {base h : Heap} {f cc D C c : Addr}
theorem xs_BadNumber : NdefX.NScope ["self", "value", "__class__"] ["self", "value"] ["__class__"] (defScope s_BadNumber_init) := NdefX.nscope_by (by decide +kernel)
theorem xo_BadNumber {dV kV doc pm ct oc : Value} {an od : Option Addr} {osl : Array (Option Value)} (lk : K.lookup f = some ⟨oc, od, .func (PySem.W.fnX "__init__" "BadNumber.__init__" (defArgs s_BadNumber_init) (defBody s_BadNumber_init) (defScope s_BadNumber_init) [(("__class__" : Str), cc)] dV kV doc pm an (.ref c) ct), osl⟩) (hcd : PySem.W.codeIn K (.ref c) "BadNumber.__init__" = true)
    (Z : SupF Pr K mg (⟨"__init__", "BadNumber.__init__", defArgs s_BadNumber_init, defBody s_BadNumber_init, defScope s_BadNumber_init, [(("__class__" : Str), cc)], c⟩ : NdefX.NF) D cc f) (SC : SupC K C D) (no0 : PySem.W.findIn K (.ref C) "value" = some none) :
    FnOk Pr w K mg base CX0 1 f (PySem.W.fnX "__init__" "BadNumber.__init__" (defArgs s_BadNumber_init) (defBody s_BadNumber_init) (defScope s_BadNumber_init) [(("__class__" : Str), cc)] dV kV doc pm an (.ref c) ct) ["self", "value"] (spXc C ["value"]) := by
  refine fn_super (F := (⟨"__init__", "BadNumber.__init__", defArgs s_BadNumber_init, defBody s_BadNumber_init, defScope s_BadNumber_init, [(("__class__" : Str), cc)], c⟩ : NdefX.NF)) (N := ["self", "value", "__class__"]) lk hcd Z xs_BadNumber rfl rfl rfl rfl (fun vs H Q E h => ?_) (fun _ => ⟨_, rfl⟩) (fun _ => rfl) (fun _ => rfl) (fun A outer s H vs Q E hr h => ?_)
  · obtain ⟨a, ys, rfl, h1, _⟩ := h
    simpa using h1
  · obtain ⟨a, ys, rfl, h1, ha, k⟩ := h
    match ys, h1 with
    | [y0], _ =>
      refine ⟨_, _, a, C, rfl, SC, ha, pa_cons (pv 1) pa_nil, pss_one (ps_ost (pv 0) (pv 1)), ?_⟩
      refine ⟨_, rfl,  by simp, ha, ?_⟩
      refine ⟨_, rfl, _, rfl, a, C, rfl, SC.oex, no0, .inl ⟨ha, fun dx n ne => ?_⟩⟩
      refine k dx _ n ne upd_same (by rw [upd_ne ne]; exact upd_same) fun b n1 n2 => by rw [upd_ne n1, upd_ne n2]
def dx_BadNumber : DefS := ⟨"BadNumber", "__init__", "BadNumber.__init__", defArgs s_BadNumber_init, defBody s_BadNumber_init, defScope s_BadNumber_init⟩
theorem xf_BadNumber (hs : fnS K (dx_BadNumber.at_ K) = dx_BadNumber.val ∧ dx_BadNumber.ok prFile K = true) (h1 : bExc "BadNumber" "BadNumber" K = true) (h2 : bIni "BadNumber" K = true) (n0 : bNo "BadNumber" "value" K = true) (h4 : bClsIn "BadNumber" K = true) (hsup : mg "super" = none) (hst : PySem.W.nsIn K PySem.cStatics "thirdparty.any" = some none) (hm : mg "BadNumber" = some (.ref (He.ga K "BadNumber"))) : ExF Pr w K mg base (He.ga K "BadNumber") "BadNumber" ["value"] := by
  obtain ⟨kp, oc, od, osl, kV, doc, pm, ct, an, cc, cd, lk, hcd, hfile, hcell⟩ := DefS.fun_ hs.1 hs.2
  have SC := bExc_ok h1
  obtain ⟨i1, i2⟩ := bIni_ok h2
  refine exF (ps := ["self", "value"]) SC.oex i1 i2 (xo_BadNumber lk hcd ⟨rfl, hfile, hcell, bClsIn_ok h4, hsup, by kernel_rfl, hst⟩ SC (He.eqO_ok n0)) (.all fun us hl => match us, hl with | [_, _], _ => rfl) hm
theorem xs_BadText : NdefX.NScope ["self", "line", "word", "__class__"] ["self", "line", "word"] ["__class__"] (defScope s_BadText_init) := NdefX.nscope_by (by decide +kernel)
theorem xo_BadText {dV kV doc pm ct oc : Value} {an od : Option Addr} {osl : Array (Option Value)} (lk : K.lookup f = some ⟨oc, od, .func (PySem.W.fnX "__init__" "BadText.__init__" (defArgs s_BadText_init) (defBody s_BadText_init) (defScope s_BadText_init) [(("__class__" : Str), cc)] dV kV doc pm an (.ref c) ct), osl⟩) (hcd : PySem.W.codeIn K (.ref c) "BadText.__init__" = true)
    (Z : SupF Pr K mg (⟨"__init__", "BadText.__init__", defArgs s_BadText_init, defBody s_BadText_init, defScope s_BadText_init, [(("__class__" : Str), cc)], c⟩ : NdefX.NF) D cc f) (SC : SupC K C D) (no0 : PySem.W.findIn K (.ref C) "line" = some none) (no1 : PySem.W.findIn K (.ref C) "word" = some none) :
    FnOk Pr w K mg base CX0 1 f (PySem.W.fnX "__init__" "BadText.__init__" (defArgs s_BadText_init) (defBody s_BadText_init) (defScope s_BadText_init) [(("__class__" : Str), cc)] dV kV doc pm an (.ref c) ct) ["self", "line", "word"] (spXc C ["line", "word"]) := by
  refine fn_super (F := (⟨"__init__", "BadText.__init__", defArgs s_BadText_init, defBody s_BadText_init, defScope s_BadText_init, [(("__class__" : Str), cc)], c⟩ : NdefX.NF)) (N := ["self", "line", "word", "__class__"]) lk hcd Z xs_BadText rfl rfl rfl rfl (fun vs H Q E h => ?_) (fun _ => ⟨_, rfl⟩) (fun _ => rfl) (fun _ => rfl) (fun A outer s H vs Q E hr h => ?_)
  · obtain ⟨a, ys, rfl, h1, _⟩ := h
    simpa using h1
  · obtain ⟨a, ys, rfl, h1, ha, k⟩ := h
    match ys, h1 with
    | [y0, y1], _ =>
      refine ⟨_, _, a, C, rfl, SC, ha, pa_cons (pv 1) (pa_cons (pv 2) pa_nil), pss_cons (ps_ost (pv 0) (pv 1)) (pss_one (ps_ost (pv 0) (pv 2))), ?_⟩
      refine ⟨_, rfl, _, rfl,  by simp, ha, ?_⟩
      refine ⟨_, rfl, _, rfl, a, C, rfl, SC.oex, no0, .inl ⟨ha, fun dx n ne => ?_⟩⟩
      refine ⟨_, rfl, _, rfl, a, C, rfl, SC.oex, no1, .inr ⟨dx, _, upd_same, (by rw [upd_ne ne]; exact upd_same), by simp, ?_⟩⟩
      refine k dx _ n ne (by rw [upd_ne (Ne.symm ne)]; exact upd_same) upd_same fun b n1 n2 => by rw [upd_ne n2, upd_ne n1, upd_ne n2]
def dx_BadText : DefS := ⟨"BadText", "__init__", "BadText.__init__", defArgs s_BadText_init, defBody s_BadText_init, defScope s_BadText_init⟩
theorem xf_BadText (hs : fnS K (dx_BadText.at_ K) = dx_BadText.val ∧ dx_BadText.ok prFile K = true) (h1 : bExc "BadText" "BadText" K = true) (h2 : bIni "BadText" K = true) (n0 : bNo "BadText" "line" K = true) (n1 : bNo "BadText" "word" K = true) (h4 : bClsIn "BadText" K = true) (hsup : mg "super" = none) (hst : PySem.W.nsIn K PySem.cStatics "thirdparty.any" = some none) (hm : mg "BadText" = some (.ref (He.ga K "BadText"))) : ExF Pr w K mg base (He.ga K "BadText") "BadText" ["line", "word"] := by
  obtain ⟨kp, oc, od, osl, kV, doc, pm, ct, an, cc, cd, lk, hcd, hfile, hcell⟩ := DefS.fun_ hs.1 hs.2
  have SC := bExc_ok h1
  obtain ⟨i1, i2⟩ := bIni_ok h2
  refine exF (ps := ["self", "line", "word"]) SC.oex i1 i2 (xo_BadText lk hcd ⟨rfl, hfile, hcell, bClsIn_ok h4, hsup, by kernel_rfl, hst⟩ SC (He.eqO_ok n0) (He.eqO_ok n1)) (.all fun us hl => match us, hl with | [_, _, _], _ => rfl) hm
end
end MP
set_option Elab.async false
set_option linter.all false
set_option maxRecDepth 100000
set_option maxHeartbeats 1000000
namespace MP
open PySem PySem.Spec PyProof.Rows L2 SP
open PySem.W (Frag)
def faL : FaL := ([("is_integer", gl "is_integer"), ("is_plain", gl "is_plain"), ("shared_divisor", gl "shared_divisor"), ("Amount.__init__", mt "Amount" "__init__"), ("Amount.is_number", wr "Amount" "staticmethod" "is_number"), ("Amount.of", wr "Amount" "staticmethod" "of"), ("Amount.per", mt "Amount" "per"), ("Amount.__add__", mt "Amount" "__add__"), ("Amount.__radd__", mt "Amount" "__radd__"), ("Amount.__sub__", mt "Amount" "__sub__"), ("Amount.__rsub__", mt "Amount" "__rsub__"), ("Amount.__mul__", mt "Amount" "__mul__"), ("Amount.__rmul__", mt "Amount" "__rmul__"), ("Amount.__floordiv__", mt "Amount" "__floordiv__"), ("Amount.__rfloordiv__", mt "Amount" "__rfloordiv__"), ("Amount.__mod__", mt "Amount" "__mod__")] : FaL) ++ ([("Amount.__rmod__", mt "Amount" "__rmod__"), ("Amount.__neg__", mt "Amount" "__neg__"), ("Amount.__abs__", mt "Amount" "__abs__"), ("Amount.__bool__", mt "Amount" "__bool__"), ("Amount.__eq__", mt "Amount" "__eq__"), ("Amount.__lt__", mt "Amount" "__lt__"), ("Amount.__le__", mt "Amount" "__le__"), ("Amount.__gt__", mt "Amount" "__gt__"), ("Amount.__ge__", mt "Amount" "__ge__"), ("Amount.__str__", mt "Amount" "__str__"), ("divisor_of", gl "divisor_of"), ("_law_pen", gl "_law_pen"), ("_law_draw", gl "_law_draw"), ("_law_pick", gl "_law_pick"), ("_law_pair", gl "_law_pair"), ("_law_low", gl "_law_low")] : FaL) ++ ([("_law_made", gl "_law_made"), ("_law_operand", gl "_law_operand"), ("_law_is", gl "_law_is"), ("_law_sums_right", gl "_law_sums_right"), ("_law_parts_right", gl "_law_parts_right"), ("_law_is_refused", gl "_law_is_refused"), ("_law_quotients_right", gl "_law_quotients_right"), ("_law_in_place_right", gl "_law_in_place_right"), ("law", gl "law"), ("@_law_quotients_right", gl "_law_quotients_right")] : FaL)
def fn0 : List He5.DefA := [dA (fun K => faOf faL K "is_integer") "is_integer" "is_integer" s_is_integer [],
  dA (fun K => faOf faL K "is_plain") "is_plain" "is_plain" s_is_plain [],
  dA (fun K => faOf faL K "shared_divisor") "shared_divisor" "shared_divisor" s_shared_divisor [],
  dA (fun K => faOf faL K "Amount.__init__") "__init__" "Amount.__init__" s_Amount_init [.int (1)],
  dA (fun K => faOf faL K "Amount.is_number") "is_number" "Amount.is_number" s_Amount_is_number [],
  dA (fun K => faOf faL K "Amount.of") "of" "Amount.of" s_Amount_of [],
  dA (fun K => faOf faL K "Amount.per") "per" "Amount.per" s_Amount_per [],
  dA (fun K => faOf faL K "Amount.__add__") "__add__" "Amount.__add__" s_Amount_add [],
  dA (fun K => faOf faL K "Amount.__radd__") "__radd__" "Amount.__radd__" s_Amount_radd [],
  dA (fun K => faOf faL K "Amount.__sub__") "__sub__" "Amount.__sub__" s_Amount_sub [],
  dA (fun K => faOf faL K "Amount.__rsub__") "__rsub__" "Amount.__rsub__" s_Amount_rsub [],
  dA (fun K => faOf faL K "Amount.__mul__") "__mul__" "Amount.__mul__" s_Amount_mul [],
  dA (fun K => faOf faL K "Amount.__rmul__") "__rmul__" "Amount.__rmul__" s_Amount_rmul [],
  dA (fun K => faOf faL K "Amount.__floordiv__") "__floordiv__" "Amount.__floordiv__" s_Amount_floordiv [],
  dA (fun K => faOf faL K "Amount.__rfloordiv__") "__rfloordiv__" "Amount.__rfloordiv__" s_Amount_rfloordiv [],
  dA (fun K => faOf faL K "Amount.__mod__") "__mod__" "Amount.__mod__" s_Amount_mod []]
def fn1 : List He5.DefA := [dA (fun K => faOf faL K "Amount.__rmod__") "__rmod__" "Amount.__rmod__" s_Amount_rmod [],
  dA (fun K => faOf faL K "Amount.__neg__") "__neg__" "Amount.__neg__" s_Amount_neg [],
  dA (fun K => faOf faL K "Amount.__abs__") "__abs__" "Amount.__abs__" s_Amount_abs [],
  dA (fun K => faOf faL K "Amount.__bool__") "__bool__" "Amount.__bool__" s_Amount_bool [],
  dA (fun K => faOf faL K "Amount.__eq__") "__eq__" "Amount.__eq__" s_Amount_eq [],
  dA (fun K => faOf faL K "Amount.__lt__") "__lt__" "Amount.__lt__" s_Amount_lt [],
  dA (fun K => faOf faL K "Amount.__le__") "__le__" "Amount.__le__" s_Amount_le [],
  dA (fun K => faOf faL K "Amount.__gt__") "__gt__" "Amount.__gt__" s_Amount_gt [],
  dA (fun K => faOf faL K "Amount.__ge__") "__ge__" "Amount.__ge__" s_Amount_ge [],
  dA (fun K => faOf faL K "Amount.__str__") "__str__" "Amount.__str__" s_Amount_str [],
  dA (fun K => faOf faL K "divisor_of") "divisor_of" "divisor_of" s_divisor_of [],
  dA (fun K => faOf faL K "_law_pen") "_law_pen" "_law_pen" s_law_pen [],
  dA (fun K => faOf faL K "_law_draw") "_law_draw" "_law_draw" s_law_draw [],
  dA (fun K => faOf faL K "_law_pick") "_law_pick" "_law_pick" s_law_pick [],
  dA (fun K => faOf faL K "_law_pair") "_law_pair" "_law_pair" s_law_pair [],
  dA (fun K => faOf faL K "_law_low") "_law_low" "_law_low" s_law_low []]
def fn2 : List He5.DefA := [dA (fun K => faOf faL K "_law_made") "_law_made" "_law_made" s_law_made [],
  dA (fun K => faOf faL K "_law_operand") "_law_operand" "_law_operand" s_law_operand [],
  dA (fun K => faOf faL K "_law_is") "_law_is" "_law_is" s_law_is [],
  dA (fun K => faOf faL K "_law_sums_right") "_law_sums_right" "_law_sums_right" s_law_sums_right [],
  dA (fun K => faOf faL K "_law_parts_right") "_law_parts_right" "_law_parts_right" s_law_parts_right [],
  dA (fun K => faOf faL K "_law_is_refused") "_law_is_refused" "_law_is_refused" s_law_is_refused [],
  dA (fun K => faOf faL K "_law_quotients_right") "_law_quotients_right" "_law_quotients_right" s_law_quotients_right [],
  dA (fun K => faOf faL K "_law_in_place_right") "_law_in_place_right" "_law_in_place_right" s_law_in_place_right [],
  dA (fun K => faOf faL K "law") "law" "law" s_law []]
def fnL : List He5.DefA := fn0 ++ (fn1 ++ (fn2))
def fsL : List DefS := [dx_BadNumber, dx_BadText]
def faB : List FaB := ([lists.okB faL, noLst, fgB lists faL, bFa (.free "super"), bSt, bFa (.glo "law"), tuB faL, bExc "BadNumber" "BadNumber", bIni "BadNumber", bClsIn "BadNumber", bFa (.glo "BadNumber"), bNo "BadNumber" "value", bExc "BadText" "BadText", bIni "BadText", bClsIn "BadText", bFa (.glo "BadText")] : List FaB) ++ ([bNo "BadText" "line", bNo "BadText" "word"] : List FaB)
def roots : List Str := (["PaneError", "BadNumber", "BadText", "FIGURES", "is_integer", "is_plain", "shared_divisor", "Amount", "divisor_of", "_law_pen", "_law_draw", "_law_pick", "_law_pair", "_law_low", "_law_made", "_law_operand"] : List Str) ++ (["_law_is", "_law_sums_right", "_law_parts_right", "_law_is_refused", "_law_quotients_right", "_law_in_place_right", "law"] : List Str)
section
variable {w : World} {K : Frag} {mg : Str → Option Value} {base h : Heap} {ex : Gx}
theorem xf_all (X : K.In h) (Gn : h.Ns mainGlobals mg) (c : SaysC prFile faB fnL fsL K) : AllP (fun p : Str × List Str => ExF Pr w K mg base (He.ga K p.1) p.1 p.2) xflL := by
  have su : mg "super" = none := He.free_ok X Gn (c.fact 3 (f := bFa (.free "super")) rfl)
  have st0 := He.eqO_ok (show He.eqO (PySem.W.nsIn K PySem.cStatics "thirdparty.any") (some none) = true from (c.fact 4 (f := bSt) rfl))
  exact ⟨xf_BadNumber (c.sup 0 rfl) (c.fact 7 (f := bExc "BadNumber" "BadNumber") rfl) (c.fact 8 (f := bIni "BadNumber") rfl) (c.fact 11 (f := bNo "BadNumber" "value") rfl) (c.fact 9 (f := bClsIn "BadNumber") rfl) su st0 (He.glo_ok X Gn (c.fact 10 (f := bFa (.glo "BadNumber")) rfl)),
    xf_BadText (c.sup 1 rfl) (c.fact 12 (f := bExc "BadText" "BadText") rfl) (c.fact 13 (f := bIni "BadText") rfl) (c.fact 16 (f := bNo "BadText" "line") rfl) (c.fact 17 (f := bNo "BadText" "word") rfl) (c.fact 14 (f := bClsIn "BadText") rfl) su st0 (He.glo_ok X Gn (c.fact 15 (f := bFa (.glo "BadText")) rfl)), trivial⟩
theorem d_is_integer (c : SaysC prFile faB fnL fsL K) : DefOk Pr w (gcOf faL K ex) mg base lists "is_integer" ⟨false, 1, 1, [], b_is_integer⟩ := by
  obtain ⟨fd, F⟩ := c.def_ 0 rfl
  exact def_ok (G := gcOf faL K ex) F sc_is_integer rfl rfl (by decide) (by decide) (plan0 (FunD.bindsN (ps := ["value"]) F fun _ _ _ _ _ _ us hl => match us, hl with | [_], _ => rfl) rfl) (kw_no (by kernel_rfl)) fun run k cdv A outer s H E N => ok_is_integer N
theorem d_is_plain (c : SaysC prFile faB fnL fsL K) : DefOk Pr w (gcOf faL K ex) mg base lists "is_plain" ⟨false, 1, 1, [], b_is_plain⟩ := by
  obtain ⟨fd, F⟩ := c.def_ 1 rfl
  exact def_ok (G := gcOf faL K ex) F sc_is_plain rfl rfl (by decide) (by decide) (plan0 (FunD.bindsN (ps := ["value"]) F fun _ _ _ _ _ _ us hl => match us, hl with | [_], _ => rfl) rfl) (kw_no (by kernel_rfl)) fun run k cdv A outer s H E N => ok_is_plain N
theorem d_shared_divisor (c : SaysC prFile faB fnL fsL K) : DefOk Pr w (gcOf faL K ex) mg base lists "shared_divisor" ⟨false, 2, 2, [], b_shared_divisor⟩ := by
  obtain ⟨fd, F⟩ := c.def_ 2 rfl
  exact def_ok (G := gcOf faL K ex) F sc_shared_divisor rfl rfl (by decide) (by decide) (plan0 (FunD.bindsN (ps := ["one", "other"]) F fun _ _ _ _ _ _ us hl => match us, hl with | [_, _], _ => rfl) rfl) (kw_no (by kernel_rfl)) fun run k cdv A outer s H E N => ok_shared_divisor N
theorem d_Amount_init (c : SaysC prFile faB fnL fsL K) : DefOk Pr w (gcOf faL K ex) mg base lists "Amount.__init__" ⟨false, 3, 4, [.int (1)], b_Amount_init⟩ := by
  obtain ⟨fd, F⟩ := c.def_ 3 rfl
  exact def_ok (G := gcOf faL K ex) F sc_Amount_init rfl rfl (by decide) (by decide) (fun n h1 h2 => by
    have hn : n = 2 ∨ n = 3 := by simp at h1; omega
    rcases hn with rfl | rfl
    · obtain ⟨ds, hv, hb⟩ := FunD.binds1 (ps := ["self", "top", "bottom"]) F 2 0 (by intro z; cases z) rfl fun T kV doc pm an cdv ct us its hu hi => match us, hu, its, hi with | [_, _], _, [_], _ => ⟨_, rfl, rfl⟩
      exact plan_pos hb (by rw [← hv.length]; rfl) hv fun _ _ => .cons (.int _) .nil
    · obtain ⟨ds, hv, hb⟩ := FunD.binds1 (ps := ["self", "top", "bottom"]) F 3 1 (by intro z; cases z) rfl fun T kV doc pm an cdv ct us its hu hi => match us, hu, its, hi with | [_, _, _], _, [_], _ => ⟨_, rfl, rfl⟩
      exact plan_pos hb (by rw [← hv.length]; rfl) hv fun _ _ => .nil) (kw_list [(("Amount.__init__", 1, ["bottom", "top"]), [0, 2, 1])] (by kernel_rfl) ⟨plan_kw (by decide) rfl fun s us ws X l1 l2 => match us, l1, ws, l2 with | [_], _, [_, _], _ => kwbD F (by intro z; cases z) X fun _ _ _ _ _ _ _ its hi => match its, hi with | [_], _ => ⟨_, rfl, rfl⟩, trivial⟩) fun run k cdv A outer s H E N => ok_Amount_init N
theorem d_Amount_is_number (c : SaysC prFile faB fnL fsL K) : DefOk Pr w (gcOf faL K ex) mg base lists "Amount.is_number" ⟨false, 1, 1, [], b_Amount_is_number⟩ := by
  obtain ⟨fd, F⟩ := c.def_ 4 rfl
  exact def_ok (G := gcOf faL K ex) F sc_Amount_is_number rfl rfl (by decide) (by decide) (plan0 (FunD.bindsN (ps := ["value"]) F fun _ _ _ _ _ _ us hl => match us, hl with | [_], _ => rfl) rfl) (kw_no (by kernel_rfl)) fun run k cdv A outer s H E N => ok_Amount_is_number N
theorem d_Amount_of (c : SaysC prFile faB fnL fsL K) : DefOk Pr w (gcOf faL K ex) mg base lists "Amount.of" ⟨false, 1, 1, [], b_Amount_of⟩ := by
  obtain ⟨fd, F⟩ := c.def_ 5 rfl
  exact def_ok (G := gcOf faL K ex) F sc_Amount_of rfl rfl (by decide) (by decide) (plan0 (FunD.bindsN (ps := ["number"]) F fun _ _ _ _ _ _ us hl => match us, hl with | [_], _ => rfl) rfl) (kw_no (by kernel_rfl)) fun run k cdv A outer s H E N => ok_Amount_of N
theorem d_Amount_per (c : SaysC prFile faB fnL fsL K) : DefOk Pr w (gcOf faL K ex) mg base lists "Amount.per" ⟨false, 2, 3, [], b_Amount_per⟩ := by
  obtain ⟨fd, F⟩ := c.def_ 6 rfl
  exact def_ok (G := gcOf faL K ex) F sc_Amount_per rfl rfl (by decide) (by decide) (plan0 (FunD.bindsN (ps := ["self", "number"]) F fun _ _ _ _ _ _ us hl => match us, hl with | [_, _], _ => rfl) rfl) (kw_list [(("Amount.per", 1, ["number"]), [0, 1])] (by kernel_rfl) ⟨plan_kw (by decide) rfl fun s us ws X l1 l2 => match us, l1, ws, l2 with | [_], _, [_], _ => kwb F fun _ _ _ _ _ _ => rfl, trivial⟩) fun run k cdv A outer s H E N => ok_Amount_per N
theorem d_Amount_add (c : SaysC prFile faB fnL fsL K) : DefOk Pr w (gcOf faL K ex) mg base lists "Amount.__add__" ⟨false, 2, 3, [], b_Amount_add⟩ := by
  obtain ⟨fd, F⟩ := c.def_ 7 rfl
  exact def_ok (G := gcOf faL K ex) F sc_Amount_add rfl rfl (by decide) (by decide) (plan0 (FunD.bindsN (ps := ["self", "other"]) F fun _ _ _ _ _ _ us hl => match us, hl with | [_, _], _ => rfl) rfl) (kw_no (by kernel_rfl)) fun run k cdv A outer s H E N => ok_Amount_add N
theorem d_Amount_radd (c : SaysC prFile faB fnL fsL K) : DefOk Pr w (gcOf faL K ex) mg base lists "Amount.__radd__" ⟨false, 2, 2, [], b_Amount_radd⟩ := by
  obtain ⟨fd, F⟩ := c.def_ 8 rfl
  exact def_ok (G := gcOf faL K ex) F sc_Amount_radd rfl rfl (by decide) (by decide) (plan0 (FunD.bindsN (ps := ["self", "other"]) F fun _ _ _ _ _ _ us hl => match us, hl with | [_, _], _ => rfl) rfl) (kw_no (by kernel_rfl)) fun run k cdv A outer s H E N => ok_Amount_radd N
theorem d_Amount_sub (c : SaysC prFile faB fnL fsL K) : DefOk Pr w (gcOf faL K ex) mg base lists "Amount.__sub__" ⟨false, 2, 3, [], b_Amount_sub⟩ := by
  obtain ⟨fd, F⟩ := c.def_ 9 rfl
  exact def_ok (G := gcOf faL K ex) F sc_Amount_sub rfl rfl (by decide) (by decide) (plan0 (FunD.bindsN (ps := ["self", "other"]) F fun _ _ _ _ _ _ us hl => match us, hl with | [_, _], _ => rfl) rfl) (kw_no (by kernel_rfl)) fun run k cdv A outer s H E N => ok_Amount_sub N
theorem d_Amount_rsub (c : SaysC prFile faB fnL fsL K) : DefOk Pr w (gcOf faL K ex) mg base lists "Amount.__rsub__" ⟨false, 2, 2, [], b_Amount_rsub⟩ := by
  obtain ⟨fd, F⟩ := c.def_ 10 rfl
  exact def_ok (G := gcOf faL K ex) F sc_Amount_rsub rfl rfl (by decide) (by decide) (plan0 (FunD.bindsN (ps := ["self", "other"]) F fun _ _ _ _ _ _ us hl => match us, hl with | [_, _], _ => rfl) rfl) (kw_no (by kernel_rfl)) fun run k cdv A outer s H E N => ok_Amount_rsub N
theorem d_Amount_mul (c : SaysC prFile faB fnL fsL K) : DefOk Pr w (gcOf faL K ex) mg base lists "Amount.__mul__" ⟨false, 2, 3, [], b_Amount_mul⟩ := by
  obtain ⟨fd, F⟩ := c.def_ 11 rfl
  exact def_ok (G := gcOf faL K ex) F sc_Amount_mul rfl rfl (by decide) (by decide) (plan0 (FunD.bindsN (ps := ["self", "other"]) F fun _ _ _ _ _ _ us hl => match us, hl with | [_, _], _ => rfl) rfl) (kw_no (by kernel_rfl)) fun run k cdv A outer s H E N => ok_Amount_mul N
theorem d_Amount_rmul (c : SaysC prFile faB fnL fsL K) : DefOk Pr w (gcOf faL K ex) mg base lists "Amount.__rmul__" ⟨false, 2, 2, [], b_Amount_rmul⟩ := by
  obtain ⟨fd, F⟩ := c.def_ 12 rfl
  exact def_ok (G := gcOf faL K ex) F sc_Amount_rmul rfl rfl (by decide) (by decide) (plan0 (FunD.bindsN (ps := ["self", "other"]) F fun _ _ _ _ _ _ us hl => match us, hl with | [_, _], _ => rfl) rfl) (kw_no (by kernel_rfl)) fun run k cdv A outer s H E N => ok_Amount_rmul N
theorem d_Amount_floordiv (c : SaysC prFile faB fnL fsL K) : DefOk Pr w (gcOf faL K ex) mg base lists "Amount.__floordiv__" ⟨false, 2, 3, [], b_Amount_floordiv⟩ := by
  obtain ⟨fd, F⟩ := c.def_ 13 rfl
  exact def_ok (G := gcOf faL K ex) F sc_Amount_floordiv rfl rfl (by decide) (by decide) (plan0 (FunD.bindsN (ps := ["self", "other"]) F fun _ _ _ _ _ _ us hl => match us, hl with | [_, _], _ => rfl) rfl) (kw_no (by kernel_rfl)) fun run k cdv A outer s H E N => ok_Amount_floordiv N
theorem d_Amount_rfloordiv (c : SaysC prFile faB fnL fsL K) : DefOk Pr w (gcOf faL K ex) mg base lists "Amount.__rfloordiv__" ⟨false, 2, 2, [], b_Amount_rfloordiv⟩ := by
  obtain ⟨fd, F⟩ := c.def_ 14 rfl
  exact def_ok (G := gcOf faL K ex) F sc_Amount_rfloordiv rfl rfl (by decide) (by decide) (plan0 (FunD.bindsN (ps := ["self", "other"]) F fun _ _ _ _ _ _ us hl => match us, hl with | [_, _], _ => rfl) rfl) (kw_no (by kernel_rfl)) fun run k cdv A outer s H E N => ok_Amount_rfloordiv N
theorem d_Amount_mod (c : SaysC prFile faB fnL fsL K) : DefOk Pr w (gcOf faL K ex) mg base lists "Amount.__mod__" ⟨false, 2, 2, [], b_Amount_mod⟩ := by
  obtain ⟨fd, F⟩ := c.def_ 15 rfl
  exact def_ok (G := gcOf faL K ex) F sc_Amount_mod rfl rfl (by decide) (by decide) (plan0 (FunD.bindsN (ps := ["self", "other"]) F fun _ _ _ _ _ _ us hl => match us, hl with | [_, _], _ => rfl) rfl) (kw_no (by kernel_rfl)) fun run k cdv A outer s H E N => ok_Amount_mod N
theorem d_Amount_rmod (c : SaysC prFile faB fnL fsL K) : DefOk Pr w (gcOf faL K ex) mg base lists "Amount.__rmod__" ⟨false, 2, 2, [], b_Amount_rmod⟩ := by
  obtain ⟨fd, F⟩ := c.def_ 16 rfl
  exact def_ok (G := gcOf faL K ex) F sc_Amount_rmod rfl rfl (by decide) (by decide) (plan0 (FunD.bindsN (ps := ["self", "other"]) F fun _ _ _ _ _ _ us hl => match us, hl with | [_, _], _ => rfl) rfl) (kw_no (by kernel_rfl)) fun run k cdv A outer s H E N => ok_Amount_rmod N
theorem d_Amount_neg (c : SaysC prFile faB fnL fsL K) : DefOk Pr w (gcOf faL K ex) mg base lists "Amount.__neg__" ⟨false, 1, 1, [], b_Amount_neg⟩ := by
  obtain ⟨fd, F⟩ := c.def_ 17 rfl
  exact def_ok (G := gcOf faL K ex) F sc_Amount_neg rfl rfl (by decide) (by decide) (plan0 (FunD.bindsN (ps := ["self"]) F fun _ _ _ _ _ _ us hl => match us, hl with | [_], _ => rfl) rfl) (kw_no (by kernel_rfl)) fun run k cdv A outer s H E N => ok_Amount_neg N
theorem d_Amount_abs (c : SaysC prFile faB fnL fsL K) : DefOk Pr w (gcOf faL K ex) mg base lists "Amount.__abs__" ⟨false, 1, 1, [], b_Amount_abs⟩ := by
  obtain ⟨fd, F⟩ := c.def_ 18 rfl
  exact def_ok (G := gcOf faL K ex) F sc_Amount_abs rfl rfl (by decide) (by decide) (plan0 (FunD.bindsN (ps := ["self"]) F fun _ _ _ _ _ _ us hl => match us, hl with | [_], _ => rfl) rfl) (kw_no (by kernel_rfl)) fun run k cdv A outer s H E N => ok_Amount_abs N
theorem d_Amount_bool (c : SaysC prFile faB fnL fsL K) : DefOk Pr w (gcOf faL K ex) mg base lists "Amount.__bool__" ⟨false, 1, 1, [], b_Amount_bool⟩ := by
  obtain ⟨fd, F⟩ := c.def_ 19 rfl
  exact def_ok (G := gcOf faL K ex) F sc_Amount_bool rfl rfl (by decide) (by decide) (plan0 (FunD.bindsN (ps := ["self"]) F fun _ _ _ _ _ _ us hl => match us, hl with | [_], _ => rfl) rfl) (kw_no (by kernel_rfl)) fun run k cdv A outer s H E N => ok_Amount_bool N
theorem d_Amount_eq (c : SaysC prFile faB fnL fsL K) : DefOk Pr w (gcOf faL K ex) mg base lists "Amount.__eq__" ⟨false, 2, 2, [], b_Amount_eq⟩ := by
  obtain ⟨fd, F⟩ := c.def_ 20 rfl
  exact def_ok (G := gcOf faL K ex) F sc_Amount_eq rfl rfl (by decide) (by decide) (plan0 (FunD.bindsN (ps := ["self", "other"]) F fun _ _ _ _ _ _ us hl => match us, hl with | [_, _], _ => rfl) rfl) (kw_no (by kernel_rfl)) fun run k cdv A outer s H E N => ok_Amount_eq N
theorem d_Amount_lt (c : SaysC prFile faB fnL fsL K) : DefOk Pr w (gcOf faL K ex) mg base lists "Amount.__lt__" ⟨false, 2, 3, [], b_Amount_lt⟩ := by
  obtain ⟨fd, F⟩ := c.def_ 21 rfl
  exact def_ok (G := gcOf faL K ex) F sc_Amount_lt rfl rfl (by decide) (by decide) (plan0 (FunD.bindsN (ps := ["self", "other"]) F fun _ _ _ _ _ _ us hl => match us, hl with | [_, _], _ => rfl) rfl) (kw_no (by kernel_rfl)) fun run k cdv A outer s H E N => ok_Amount_lt N
theorem d_Amount_le (c : SaysC prFile faB fnL fsL K) : DefOk Pr w (gcOf faL K ex) mg base lists "Amount.__le__" ⟨false, 2, 3, [], b_Amount_le⟩ := by
  obtain ⟨fd, F⟩ := c.def_ 22 rfl
  exact def_ok (G := gcOf faL K ex) F sc_Amount_le rfl rfl (by decide) (by decide) (plan0 (FunD.bindsN (ps := ["self", "other"]) F fun _ _ _ _ _ _ us hl => match us, hl with | [_, _], _ => rfl) rfl) (kw_no (by kernel_rfl)) fun run k cdv A outer s H E N => ok_Amount_le N
theorem d_Amount_gt (c : SaysC prFile faB fnL fsL K) : DefOk Pr w (gcOf faL K ex) mg base lists "Amount.__gt__" ⟨false, 2, 3, [], b_Amount_gt⟩ := by
  obtain ⟨fd, F⟩ := c.def_ 23 rfl
  exact def_ok (G := gcOf faL K ex) F sc_Amount_gt rfl rfl (by decide) (by decide) (plan0 (FunD.bindsN (ps := ["self", "other"]) F fun _ _ _ _ _ _ us hl => match us, hl with | [_, _], _ => rfl) rfl) (kw_no (by kernel_rfl)) fun run k cdv A outer s H E N => ok_Amount_gt N
theorem d_Amount_ge (c : SaysC prFile faB fnL fsL K) : DefOk Pr w (gcOf faL K ex) mg base lists "Amount.__ge__" ⟨false, 2, 3, [], b_Amount_ge⟩ := by
  obtain ⟨fd, F⟩ := c.def_ 24 rfl
  exact def_ok (G := gcOf faL K ex) F sc_Amount_ge rfl rfl (by decide) (by decide) (plan0 (FunD.bindsN (ps := ["self", "other"]) F fun _ _ _ _ _ _ us hl => match us, hl with | [_, _], _ => rfl) rfl) (kw_no (by kernel_rfl)) fun run k cdv A outer s H E N => ok_Amount_ge N
theorem d_Amount_str (c : SaysC prFile faB fnL fsL K) : DefOk Pr w (gcOf faL K ex) mg base lists "Amount.__str__" ⟨false, 1, 1, [], b_Amount_str⟩ := by
  obtain ⟨fd, F⟩ := c.def_ 25 rfl
  exact def_ok (G := gcOf faL K ex) F sc_Amount_str rfl rfl (by decide) (by decide) (plan0 (FunD.bindsN (ps := ["self"]) F fun _ _ _ _ _ _ us hl => match us, hl with | [_], _ => rfl) rfl) (kw_no (by kernel_rfl)) fun run k cdv A outer s H E N => ok_Amount_str N
theorem d_divisor_of (c : SaysC prFile faB fnL fsL K) : DefOk Pr w (gcOf faL K ex) mg base lists "divisor_of" ⟨false, 1, 1, [], b_divisor_of⟩ := by
  obtain ⟨fd, F⟩ := c.def_ 26 rfl
  exact def_ok (G := gcOf faL K ex) F sc_divisor_of rfl rfl (by decide) (by decide) (plan0 (FunD.bindsN (ps := ["amount"]) F fun _ _ _ _ _ _ us hl => match us, hl with | [_], _ => rfl) rfl) (kw_no (by kernel_rfl)) fun run k cdv A outer s H E N => ok_divisor_of N
theorem d_law_pen (c : SaysC prFile faB fnL fsL K) : DefOk Pr w (gcOf faL K ex) mg base lists "_law_pen" ⟨true, 1, 1, [], b_law_pen⟩ := by
  obtain ⟨fd, F⟩ := c.def_ 27 rfl
  exact def_ok (G := gcOf faL K ex) F sc_law_pen rfl rfl (by decide) (by decide) (plan0 (FunD.bindsN (ps := ["_law_script"]) F fun _ _ _ _ _ _ us hl => match us, hl with | [_], _ => rfl) rfl) (kw_no (by kernel_rfl)) fun run k cdv A outer s H E N => ok_law_pen N
theorem d_law_draw (c : SaysC prFile faB fnL fsL K) : DefOk Pr w (gcOf faL K ex) mg base lists "_law_draw" ⟨false, 2, 7, [], b_law_draw⟩ := by
  obtain ⟨fd, F⟩ := c.def_ 28 rfl
  exact def_ok (G := gcOf faL K ex) F sc_law_draw rfl rfl (by decide) (by decide) (plan0 (FunD.bindsN (ps := ["_law_pen_here", "_law_many"]) F fun _ _ _ _ _ _ us hl => match us, hl with | [_, _], _ => rfl) rfl) (kw_no (by kernel_rfl)) fun run k cdv A outer s H E N => ok_law_draw N
theorem d_law_pick (c : SaysC prFile faB fnL fsL K) : DefOk Pr w (gcOf faL K ex) mg base lists "_law_pick" ⟨false, 2, 2, [], b_law_pick⟩ := by
  obtain ⟨fd, F⟩ := c.def_ 29 rfl
  exact def_ok (G := gcOf faL K ex) F sc_law_pick rfl rfl (by decide) (by decide) (plan0 (FunD.bindsN (ps := ["_law_pen_here", "_law_some"]) F fun _ _ _ _ _ _ us hl => match us, hl with | [_, _], _ => rfl) rfl) (kw_no (by kernel_rfl)) fun run k cdv A outer s H E N => ok_law_pick N
theorem d_law_pair (c : SaysC prFile faB fnL fsL K) : DefOk Pr w (gcOf faL K ex) mg base lists "_law_pair" ⟨false, 1, 4, [], b_law_pair⟩ := by
  obtain ⟨fd, F⟩ := c.def_ 30 rfl
  exact def_ok (G := gcOf faL K ex) F sc_law_pair rfl rfl (by decide) (by decide) (plan0 (FunD.bindsN (ps := ["_law_pen_here"]) F fun _ _ _ _ _ _ us hl => match us, hl with | [_], _ => rfl) rfl) (kw_no (by kernel_rfl)) fun run k cdv A outer s H E N => ok_law_pair N
theorem d_law_low (c : SaysC prFile faB fnL fsL K) : DefOk Pr w (gcOf faL K ex) mg base lists "_law_low" ⟨false, 2, 5, [], b_law_low⟩ := by
  obtain ⟨fd, F⟩ := c.def_ 31 rfl
  exact def_ok (G := gcOf faL K ex) F sc_law_low rfl rfl (by decide) (by decide) (plan0 (FunD.bindsN (ps := ["_law_upper", "_law_lower"]) F fun _ _ _ _ _ _ us hl => match us, hl with | [_, _], _ => rfl) rfl) (kw_no (by kernel_rfl)) fun run k cdv A outer s H E N => ok_law_low N
theorem d_law_made (c : SaysC prFile faB fnL fsL K) : DefOk Pr w (gcOf faL K ex) mg base lists "_law_made" ⟨false, 2, 3, [], b_law_made⟩ := by
  obtain ⟨fd, F⟩ := c.def_ 32 rfl
  exact def_ok (G := gcOf faL K ex) F sc_law_made rfl rfl (by decide) (by decide) (plan0 (FunD.bindsN (ps := ["_law_pen_here", "_law_pair_here"]) F fun _ _ _ _ _ _ us hl => match us, hl with | [_, _], _ => rfl) rfl) (kw_no (by kernel_rfl)) fun run k cdv A outer s H E N => ok_law_made N
theorem d_law_operand (c : SaysC prFile faB fnL fsL K) : DefOk Pr w (gcOf faL K ex) mg base lists "_law_operand" ⟨false, 2, 4, [], b_law_operand⟩ := by
  obtain ⟨fd, F⟩ := c.def_ 33 rfl
  exact def_ok (G := gcOf faL K ex) F sc_law_operand rfl rfl (by decide) (by decide) (plan0 (FunD.bindsN (ps := ["_law_pen_here", "_law_pair_here"]) F fun _ _ _ _ _ _ us hl => match us, hl with | [_, _], _ => rfl) rfl) (kw_no (by kernel_rfl)) fun run k cdv A outer s H E N => ok_law_operand N
theorem d_law_is (c : SaysC prFile faB fnL fsL K) : DefOk Pr w (gcOf faL K ex) mg base lists "_law_is" ⟨false, 3, 3, [], b_law_is⟩ := by
  obtain ⟨fd, F⟩ := c.def_ 34 rfl
  exact def_ok (G := gcOf faL K ex) F sc_law_is rfl rfl (by decide) (by decide) (plan0 (FunD.bindsN (ps := ["_law_found", "_law_upper", "_law_lower"]) F fun _ _ _ _ _ _ us hl => match us, hl with | [_, _, _], _ => rfl) rfl) (kw_no (by kernel_rfl)) fun run k cdv A outer s H E N => ok_law_is N
theorem d_law_sums_right (c : SaysC prFile faB fnL fsL K) : DefOk Pr w (gcOf faL K ex) mg base lists "_law_sums_right" ⟨false, 4, 11, [], b_law_sums_right⟩ := by
  obtain ⟨fd, F⟩ := c.def_ 35 rfl
  exact def_ok (G := gcOf faL K ex) F sc_law_sums_right rfl rfl (by decide) (by decide) (plan0 (FunD.bindsN (ps := ["_law_one", "_law_other", "_law_thing", "_law_operand_here"]) F fun _ _ _ _ _ _ us hl => match us, hl with | [_, _, _, _], _ => rfl) rfl) (kw_no (by kernel_rfl)) fun run k cdv A outer s H E N => ok_law_sums_right N
theorem d_law_parts_right (c : SaysC prFile faB fnL fsL K) : DefOk Pr w (gcOf faL K ex) mg base lists "_law_parts_right" ⟨false, 5, 10, [], b_law_parts_right⟩ := by
  obtain ⟨fd, F⟩ := c.def_ 36 rfl
  exact def_ok (G := gcOf faL K ex) F sc_law_parts_right rfl rfl (by decide) (by decide) (plan0 (FunD.bindsN (ps := ["_law_one", "_law_other", "_law_told", "_law_whole", "_law_rest"]) F fun _ _ _ _ _ _ us hl => match us, hl with | [_, _, _, _, _], _ => rfl) rfl) (kw_no (by kernel_rfl)) fun run k cdv A outer s H E N => ok_law_parts_right N
theorem hd_law_is_refused (c : SaysC prFile faB fnL fsL K) : HolD (gcOf faL K ex) "_law_is_refused" "_law_ask" (defBody s_law_is_refused) (defScope s_law_is_refused) n_law_is_refused := by
  obtain ⟨fd, F⟩ := c.def_ 37 rfl
  exact ⟨_, fd, F, FunD.bindsN (ps := ["_law_ask"]) F fun _ _ _ _ _ _ us hl => match us, hl with | [_], _ => rfl, sc_law_is_refused⟩
theorem d_law_is_refused (c : SaysC prFile faB fnL fsL K) : DefOk Pr w (gcOf faL K ex) mg base lists "_law_is_refused" ⟨false, 1, 3, [], b_law_is_refused⟩ := by
  obtain ⟨fd, F⟩ := c.def_ 37 rfl
  exact def_ok (G := gcOf faL K ex) F sc_law_is_refused rfl rfl (by decide) (by decide) (plan0 (FunD.bindsN (ps := ["_law_ask"]) F fun _ _ _ _ _ _ us hl => match us, hl with | [_], _ => rfl) rfl) (kw_no (by kernel_rfl)) fun run k cdv A outer s H E N => ok_law_is_refused N
theorem d_law_quotients_right (c : SaysC prFile faB fnL fsL K) : DefOk Pr w (gcOf faL K ex) mg base lists "_law_quotients_right" ⟨false, 4, 6, [], b_law_quotients_right⟩ := by
  obtain ⟨fd, F⟩ := c.def_ 38 rfl
  exact def_okL (G := gcOf faL K ex) F sc_law_quotients_right rfl rfl (by decide) (by decide) (plan0 (FunD.bindsN (ps := ["_law_one", "_law_other", "_law_thing", "_law_operand_here"]) F fun _ _ _ _ _ _ us hl => match us, hl with | [_, _, _, _], _ => rfl) rfl) (kw_no (by kernel_rfl)) (fun p h => cs_in (y := "@_law_quotients_right") (a := gl "_law_quotients_right") (by simp [faL]) (by decide +kernel) h) fun run k cdv A outer s H E N M => ok_law_quotients_right N M (hd_law_is_refused c)
theorem d_law_in_place_right (c : SaysC prFile faB fnL fsL K) : DefOk Pr w (gcOf faL K ex) mg base lists "_law_in_place_right" ⟨false, 4, 9, [], b_law_in_place_right⟩ := by
  obtain ⟨fd, F⟩ := c.def_ 39 rfl
  exact def_ok (G := gcOf faL K ex) F sc_law_in_place_right rfl rfl (by decide) (by decide) (plan0 (FunD.bindsN (ps := ["_law_one", "_law_other", "_law_thing", "_law_operand_here"]) F fun _ _ _ _ _ _ us hl => match us, hl with | [_, _, _, _], _ => rfl) rfl) (kw_no (by kernel_rfl)) fun run k cdv A outer s H E N => ok_law_in_place_right N
theorem d_law (c : SaysC prFile faB fnL fsL K) : DefOk Pr w (gcOf faL K ex) mg base lists "law" ⟨false, 1, 7, [], b_law⟩ := by
  obtain ⟨fd, F⟩ := c.def_ 40 rfl
  exact def_ok (G := gcOf faL K ex) F sc_law rfl rfl (by decide) (by decide) (plan0 (FunD.bindsN (ps := ["_law_script"]) F fun _ _ _ _ _ _ us hl => match us, hl with | [_], _ => rfl) rfl) (kw_no (by kernel_rfl)) fun run k cdv A outer s H E N => ok_law N
theorem da0 (c : SaysC prFile faB fnL fsL K) : AllP (fun p : Str × Bd => DefOk Pr w (gcOf faL K ex) mg base lists p.1 p.2) dfs0 := ⟨d_is_integer c, d_is_plain c, d_shared_divisor c, d_Amount_init c, d_Amount_is_number c, d_Amount_of c, d_Amount_per c, d_Amount_add c, d_Amount_radd c, d_Amount_sub c, d_Amount_rsub c, d_Amount_mul c, d_Amount_rmul c, d_Amount_floordiv c, d_Amount_rfloordiv c, d_Amount_mod c, trivial⟩
theorem da1 (c : SaysC prFile faB fnL fsL K) : AllP (fun p : Str × Bd => DefOk Pr w (gcOf faL K ex) mg base lists p.1 p.2) dfs1 := ⟨d_Amount_rmod c, d_Amount_neg c, d_Amount_abs c, d_Amount_bool c, d_Amount_eq c, d_Amount_lt c, d_Amount_le c, d_Amount_gt c, d_Amount_ge c, d_Amount_str c, d_divisor_of c, d_law_pen c, d_law_draw c, d_law_pick c, d_law_pair c, d_law_low c, trivial⟩
theorem da2 (c : SaysC prFile faB fnL fsL K) : AllP (fun p : Str × Bd => DefOk Pr w (gcOf faL K ex) mg base lists p.1 p.2) dfs2 := ⟨d_law_made c, d_law_operand c, d_law_is c, d_law_sums_right c, d_law_parts_right c, d_law_is_refused c, d_law_quotients_right c, d_law_in_place_right c, d_law c, trivial⟩
theorem da (c : SaysC prFile faB fnL fsL K) : AllP (fun p : Str × Bd => DefOk Pr w (gcOf faL K ex) mg base lists p.1 p.2) dfs := (da0 c).app ((da1 c).app (da2 c))
theorem kw_in : ∀ q n ks ix, lists.kwL.lookup (q, n, ks) = some ix → (dfs.lookup q).isSome = true := fun q n ks ix e => List.all_eq_true.mp (show (kwL.all fun p => (dfs.lookup p.1.1).isSome) = true by kernel_rfl) _ (lookup_mem e)
theorem lfacts (j : Nat) (X : K.In h) (Gn : h.Ns mainGlobals mg) (c : SaysC prFile faB fnL fsL K) (tk : TabsOk faL K h) : K.In h ∧ noLst K = true ∧ mg "law" = some (.ref (faOf faL K "law")) ∧ TabsOk faL K h ∧ ∀ base : Heap, K.In base → base.Ns mainGlobals mg → (∀ p ∈ csOf faL K, LamX.TabB base mg p.1 p.2.1) → ∀ q, FS Pr w (gcOf faL K {}) mg base (5 * j) (faOf faL K q) (rn j q) := by
  refine ⟨X, (c.fact 1 (f := noLst) rfl), ?_, tk, fun base _ _ htb => (all_ok (G := gcOf faL K {}) (fun ex run => stok X Gn (c.fact 0 (f := lists.okB faL) rfl) (fgB_ok (c.fact 2 (f := fgB lists faL) rfl)) (fun c0 fl e => AllP.mem (xf_all X Gn c) (lookup_mem e)) htb (tuB_ok (c.fact 6 (f := tuB faL) rfl)) ex) (fun ex q b e => AllP.mem (da (ex := ex) c) (lookup_mem e)) kw_in j {}).1⟩
  rw [fgB_ok (c.fact 2 (f := fgB lists faL) rfl) "law" (by kernel_rfl)]
  exact He.glo_ok X Gn (c.fact 5 (f := bFa (.glo "law")) rfl)
end
end MP
set_option Elab.async false
set_option linter.all false
set_option maxRecDepth 100000
set_option maxHeartbeats 1000000
namespace MP
open PySem PySem.Spec PyProof.Rows L2 SP
/-! ### mirrors are run: equations -/
section
variable {α β γ : Type} {st st' s : Sto} {sl : Sl} {n : Nat} {T : Tb}
@[simp] theorem bind_assoc (r : Res α) (f : α → MM β) (g : β → MM γ) : (r.bind f).bind g = r.bind fun a s => (f a s).bind g := by cases r <;> rfl
def SR.sq (r : SR) (f : Sl → Sto → SR) : SR := match r with
  | .nx sl st => f sl st
  | r => r
@[simp] theorem sSeq_ (a b : SS) : sSeq a b n sl st = (a n sl st).sq (b n) := rfl
@[simp] theorem sq_nx (f : Sl → Sto → SR) : (SR.nx sl st).sq f = f sl st := rfl
@[simp] theorem sq_rt (d : D) (f : Sl → Sto → SR) : (SR.rt d st).sq f = .rt d st := rfl
@[simp] theorem sq_bk (f : Sl → Sto → SR) : (SR.bk sl st).sq f = .bk sl st := rfl
@[simp] theorem sq_ct (f : Sl → Sto → SR) : (SR.ct sl st).sq f = .ct sl st := rfl
@[simp] theorem sq_exc (e : D) (f : Sl → Sto → SR) : (SR.exc e sl st).sq f = .exc e sl st := rfl
@[simp] theorem sq_bad (f : Sl → Sto → SR) : SR.bad.sq f = .bad := rfl
@[simp] theorem sq_sq (r : SR) (f g : Sl → Sto → SR) : (r.sq f).sq g = r.sq fun sl st => (f sl st).sq g := by cases r <;> rfl
@[simp] theorem sq_toS (r : Res α) (f : α → Sto → SR) (g : Sl → Sto → SR) : (toS r sl f).sq g = toS r sl fun a s => (f a s).sq g := by cases r <;> rfl
@[simp] theorem toS_ok (a : α) (f : α → Sto → SR) : toS (.ok a st) sl f = f a st := rfl
@[simp] theorem toS_exc (e : D) (f : α → Sto → SR) : toS (.exc e st) sl f = .exc e sl st := rfl
@[simp] theorem toS_bad (f : α → Sto → SR) : toS .bad sl f = .bad := rfl
@[simp] theorem toS_bind (r : Res α) (g : α → MM β) (f : β → Sto → SR) : toS (r.bind g) sl f = toS r sl fun a s => toS (g a s) sl f := by cases r <;> rfl
@[simp] theorem sSet_ (i : Nat) (m : EE) : sSet i m n sl st = toS (m sl st) sl fun d st => .nx (sl.set i d) st := rfl
@[simp] theorem sExpr_ (m : EE) : sExpr m n sl st = toS (m sl st) sl fun _ st => .nx sl st := rfl
@[simp] theorem sRet_ (m : EE) : sRet m n sl st = toS (m sl st) sl fun d st => .rt d st := rfl
@[simp] theorem sRetN_ : sRetN n sl st = .rt .non st := rfl
@[simp] theorem sNil_ : sNil n sl st = .nx sl st := rfl
@[simp] theorem sBrk_ : sBrk n sl st = .bk sl st := rfl
@[simp] theorem sCnt_ : sCnt n sl st = .ct sl st := rfl
@[simp] theorem sIf_ (c : ET) (a b : SS) : sIf c a b n sl st = toS (c sl st) sl fun x st => if x = true then a n sl st else b n sl st := rfl
def frzR (n : Nat) (d : D) (st : Sto) : SR := match frzD n d st with
  | some (d, st) => .rt d st
  | none => .bad
@[simp] theorem sRetF_ (m : EE) : sRetF m n sl st = toS (m sl st) sl fun d st => frzR n d st := rfl
@[simp] theorem frzR_clean {d : D} (h : d.clean n = true) : frzR n d st = .rt d st := by unfold frzR frzD; rw [if_pos h]
@[simp] theorem frzR_non : frzR n .non st = .rt .non st := rfl
@[simp] theorem frzR_bl {b : Bool} : frzR n (.bl b) st = .rt (.bl b) st := rfl
@[simp] theorem frzR_int {b : Int} : frzR n (.int b) st = .rt (.int b) st := rfl
@[simp] theorem frzR_str {b : Str} : frzR n (.str b) st = .rt (.str b) st := rfl
/-- what a def's mirror ends with -/
theorem mFn_false (np N : Nat) (m : SS) (ds : List D) : mFn false np N m ds st = mfn np N m ds st := rfl
@[simp] theorem fin_rt (d : D) : fin st (.rt d st') = cut st d st' := rfl
@[simp] theorem fin_nx : fin st (.nx sl st') = cut st .non st' := rfl
@[simp] theorem fin_exc (e : D) : fin st (.exc e sl st') = cutX st e st' := rfl
theorem cut_le {d : D} (h : st'.length ≤ st.length) : cut st d st' = .ok d st' := if_pos h
theorem cutX_le {d : D} (h : st'.length ≤ st.length) : cutX st d st' = .exc d st' := if_pos h
@[simp] theorem cut_same (d : D) : cut st d st = .ok d st := cut_le (Nat.le_refl _)
@[simp] theorem cutX_same (d : D) : cutX st d st = .exc d st := cutX_le (Nat.le_refl _)
@[simp] theorem cut_cons (d : D) (p p' : MO) : cut (p :: st) d (p' :: st) = .ok d (p' :: st) := cut_le (Nat.le_refl _)
@[simp] theorem cutX_cons (d : D) (p p' : MO) : cutX (p :: st) d (p' :: st) = .exc d (p' :: st) := cutX_le (Nat.le_refl _)
@[simp] theorem cut_snoc (d : D) (o o' : MO) : cut (st ++ [o]) d (st ++ [o']) = .ok d (st ++ [o']) := cut_le (by simp)
@[simp] theorem cutX_snoc (d : D) (o o' : MO) : cutX (st ++ [o]) d (st ++ [o']) = .exc d (st ++ [o']) := cutX_le (by simp)
theorem okCut_snoc (l : Sto) : okCut st (st ++ l) := fun i h => .inl (List.getElem?_append_left h)
@[simp] theorem cut_app {d : D} {l : Sto} (h : d.clean st.length = true) : cut st d (st ++ l) = .ok d st := by
  unfold cut
  split
  · rename_i h2
    cases l with
    | nil => simp
    | cons x l => simp at h2; omega
  · rw [if_pos ⟨h, okCut_snoc l⟩]
    simp
@[simp] theorem cutX_app {d : D} {l : Sto} (h : d.clean st.length = true) : cutX st d (st ++ l) = .exc d st := by
  unfold cutX
  split
  · rename_i h2
    cases l with
    | nil => simp
    | cons x l => simp at h2; omega
  · rw [if_pos ⟨h, okCut_snoc l⟩]
    simp
@[simp] theorem cut_nil {d : D} (h : d.clean 0 = true) : cut [] d st = .ok d [] := cut_app (st := []) (l := st) h
theorem cut_capp {d : D} {p p' : MO} {l : Sto} (h : d.clean (st.length + 1) = true) (hp : p'.clean (st.length + 1) = true) : cut (p :: st) d (p' :: (st ++ l)) = .ok d (p' :: st) := by
  unfold cut
  split
  · rename_i h2
    cases l with
    | nil => simp
    | cons x l => simp at h2; omega
  · rw [if_pos]
    · simp
    · refine ⟨h, fun i hi => ?_⟩
      cases i with
      | zero => exact .inr ⟨p', rfl, hp⟩
      | succ i =>
        left
        simp at hi
        simpa using List.getElem?_append_left hi
/-! ### expressions -/
@[simp] theorem eVar_ (i : Nat) : eVar i sl st = match sl.v[i]? with | some (some d) => .ok d st | _ => .bad := rfl
@[simp] theorem eC_ (d : D) : eC d sl st = .ok d st := rfl
@[simp] theorem eOp_ (f : D → D → MM D) (a b : EE) : eOp f a b sl st = (a sl st).bind fun x st => (b sl st).bind fun y => f x y := rfl
@[simp] theorem eUn_ (f : D → MM D) (a : EE) : eUn f a sl st = (a sl st).bind f := rfl
@[simp] theorem eCallD_ (m : List D → MM D) (a : EA) : eCallD m a sl st = (a sl st).bind m := rfl
@[simp] theorem aNil_ : aNil sl st = .ok [] st := rfl
@[simp] theorem aCons_ (a : EE) (r : EA) : aCons a r sl st = (a sl st).bind fun x st => (r sl st).bind fun xs st => .ok (x :: xs) st := rfl
@[simp] theorem isB_ (b : Bool) : isB (.bl b) st = .ok b st := rfl
@[simp] theorem tCmpB_ (f : D → D → MM D) (a b : EE) : tCmpB f a b sl st = (eOp f a b sl st).bind isB := rfl
@[simp] theorem tVal_ (f : D → MM Bool) (a : EE) : tVal f a sl st = (a sl st).bind f := rfl
@[simp] theorem tNotM_ (a : ET) : tNotM a sl st = (a sl st).bind fun b st => .ok (!b) st := rfl
@[simp] theorem tAndM_ (a b : ET) : tAndM a b sl st = (a sl st).bind fun x st => if x = true then b sl st else .ok false st := rfl
@[simp] theorem tOrM_ (a b : ET) : tOrM a b sl st = (a sl st).bind fun x st => if x = true then .ok true st else b sl st := rfl
@[simp] theorem eIf_ (c : ET) (a b : EE) : eIf c a b sl st = (c sl st).bind fun x st => if x = true then a sl st else b sl st := rfl
@[simp] theorem eAnd_ (a b : EE) : eAnd a b sl st = (a sl st).bind fun x st => (isB x st).bind fun x st => if x = true then b sl st else .ok (.bl false) st := rfl
@[simp] theorem eOr_ (a b : EE) : eOr a b sl st = (a sl st).bind fun x st => (isB x st).bind fun x st => if x = true then .ok (.bl true) st else b sl st := rfl
@[simp] theorem eNot_ (a : EE) : eNot a sl st = (a sl st).bind fun x st => (isB x st).bind fun x st => .ok (.bl (!x)) st := rfl
@[simp] theorem eMeth_ (m : Str) (me : EE) (ma : EA) : eMeth T m me ma sl st = (me sl st).bind fun d st => match look T m d st with
  | some (q, ds) => (ma sl st).bind fun xs => T.run q (ds ++ xs)
  | none => .bad := rfl
@[simp] theorem eMeth0_ (m : Str) (me : EE) : eMeth0 T m me sl st = (me sl st).bind fun d st => match look0 T m d st with
  | some (q, ds) => T.run q ds st
  | none => .bad := rfl
@[simp] theorem eMethK_ (m : Str) (ks : List Str) (me : EE) (mk : EA) : eMethK T m ks me mk sl st = (me sl st).bind fun d st => match look T m d st with
  | some (q, ds) => match T.kw q ds.length ks with
    | some pl => (mk sl st).bind fun es => if es.length = ks.length then T.run q (pl ds es) else fun _ => .bad
    | none => .bad
  | none => .bad := rfl
@[simp] theorem sl_get (v : List (Option D)) (b : Bool) : (Sl.mk v b).v = v := rfl
@[simp] theorem sl_set (v : List (Option D)) (i : Nat) (d : D) : (Sl.mk v false).set i d = ⟨v.set i (some d), false⟩ := rfl
@[simp] theorem sl_setT (v : List (Option D)) (i : Nat) (d : D) : (Sl.mk v true).set i d = ⟨v.set i (some d), decide (i ≠ 0)⟩ := rfl
@[simp] theorem sl_unset (v : List (Option D)) (i : Nat) : (Sl.mk v false).unset i = ⟨v.set i none, false⟩ := rfl
@[simp] theorem sl_unsetT (v : List (Option D)) (i : Nat) : (Sl.mk v true).unset i = ⟨v.set i none, decide (i ≠ 0)⟩ := rfl
@[simp] theorem ite_ok (c : Prop) [Decidable c] (a b : α) : (if c then Res.ok a st else Res.ok b st) = Res.ok (if c then a else b) st := by split <;> rfl
@[simp] theorem ite_bl (c : Prop) [Decidable c] (a b : Bool) : (if c then D.bl a else D.bl b) = D.bl (if c then a else b) := by split <;> rfl
@[simp] theorem ite_int (c : Prop) [Decidable c] (a b : Int) : (if c then D.int a else D.int b) = D.int (if c then a else b) := by split <;> rfl
@[simp] theorem ite_str (c : Prop) [Decidable c] (a b : Str) : (if c then D.str a else D.str b) = D.str (if c then a else b) := by split <;> rfl
/-- what may be a factor, a divisor -/
def L1 (i : Int) : Prop := i.natAbs < B1
def Ld (i : Int) : Prop := i ≠ 0 ∧ i.natAbs < B2
/-! signs of ints, bools, texts -/
theorem orM_l {m1 m2 : D → D → MM D} {x y : D} (h : m2 x y st = .bad) : orM m1 m2 x y st = m1 x y st := by unfold orM; split <;> simp_all
theorem orM_r {m1 m2 : D → D → MM D} {x y : D} (h : m1 x y st = .bad) : orM m1 m2 x y st = m2 x y st := by unfold orM; simp [h]
theorem orU_l {α : Type} {m1 m2 : α → MM D} {x : α} (h : m2 x st = .bad) : orU m1 m2 x st = m1 x st := by unfold orU; split <;> simp_all
theorem orU_r {α : Type} {m1 m2 : α → MM D} {x : α} (h : m1 x st = .bad) : orU m1 m2 x st = m2 x st := by unfold orU; simp [h]
variable {i j : Int} {x y : Str} {a b : Bool}
@[simp] theorem bAdd_int : bAdd T (.int i) (.int j) st = .ok (.int (i + j)) st := rfl
@[simp] theorem bSub_int : bSub T (.int i) (.int j) st = .ok (.int (i - j)) st := rfl
@[simp] theorem bMul_int (h1 : L1 i) (h2 : L1 j) : bMul T (.int i) (.int j) st = .ok (.int (i * j)) st := by
  unfold bMul orM
  simp only [iMul]
  rw [if_pos ⟨h1, h2⟩]
@[simp] theorem bDiv_int (h : Ld j) : bDiv T (.int i) (.int j) st = .ok (.int (i.fdiv j)) st := by
  unfold bDiv orM
  simp only [iDiv]
  rw [if_pos (show j ≠ 0 ∧ j.natAbs < B2 from h)]
@[simp] theorem bMod_int (h : j ≠ 0) : bMod T (.int i) (.int j) st = .ok (.int (i.fmod j)) st := by
  have : iMod (.int i) (.int j) st = .ok (.int (i.fmod j)) st := if_pos h
  unfold bMod orM; rw [this]
@[simp] theorem bPow_int (h : 0 ≤ j ∧ j ≤ 1000000 ∧ i.natAbs < 2 ^ 64) : bPow T (.int i) (.int j) st = .ok (.int (i ^ j.toNat)) st := if_pos h
@[simp] theorem uNeg_int : uNeg T (.int i) st = .ok (.int (-i)) st := rfl
@[simp] theorem cEq_int : cEq T (.int i) (.int j) st = .ok (.bl (decide (i = j))) st := rfl
@[simp] theorem cNe_int : cNe T (.int i) (.int j) st = .ok (.bl (!decide (i = j))) st := rfl
@[simp] theorem cLt_int : cLt T (.int i) (.int j) st = .ok (.bl (decide (i < j))) st := rfl
@[simp] theorem cLe_int : cLe T (.int i) (.int j) st = .ok (.bl (decide (i ≤ j))) st := rfl
@[simp] theorem cGt_int : cGt T (.int i) (.int j) st = .ok (.bl (decide (j < i))) st := rfl
@[simp] theorem cGe_int : cGe T (.int i) (.int j) st = .ok (.bl (decide (j ≤ i))) st := rfl
@[simp] theorem cEq_str : cEq T (.str x) (.str y) st = .ok (.bl (decide (x = y))) st := rfl
@[simp] theorem cNe_str : cNe T (.str x) (.str y) st = .ok (.bl (!decide (x = y))) st := rfl
theorem cEq_non_non : cEq T .non .non st = .ok (.bl true) st := rfl
@[simp] theorem cEq_bl : cEq T (.bl a) (.bl b) st = .ok (.bl (decide (a = b))) st := rfl
@[simp] theorem cNe_bl : cNe T (.bl a) (.bl b) st = .ok (.bl (!decide (a = b))) st := rfl
@[simp] theorem bAdd_str (h : x.length + y.length ≤ 1000000) : bAdd T (.str x) (.str y) st = .ok (.str (x ++ y)) st := by
  have : sAdd (.str x) (.str y) st = .ok (.str (x ++ y)) st := if_pos h
  unfold bAdd
  rw [orM_r rfl]
  unfold orM
  rw [this]
@[simp] theorem bAdd_lst {xs ys : List D} (h : xs.length + ys.length ≤ 1000000) : bAdd T (.lst xs) (.lst ys) st = .ok (.lst (xs ++ ys)) st := by
  have : lAdd (.lst xs) (.lst ys) st = .ok (.lst (xs ++ ys)) st := if_pos h
  unfold bAdd
  rw [orM_r rfl, orM_r rfl]
  unfold orM
  rw [this]
theorem cIs_non : cIs T .non .non st = .ok (.bl true) st := rfl
@[simp] theorem cIs_ {d : D} : cIs T d .non st = .ok (.bl d.isN) st := rfl
@[simp] theorem cNot_ {d : D} : cNot T d .non st = .ok (.bl (!d.isN)) st := rfl
@[simp] theorem isN_non : D.non.isN = true := rfl
@[simp] theorem isN_bl : (D.bl b).isN = false := rfl
@[simp] theorem isN_int : (D.int i).isN = false := rfl
@[simp] theorem isN_str : (D.str x).isN = false := rfl
@[simp] theorem isN_tup {xs : List D} : (D.tup xs).isN = false := rfl
@[simp] theorem isN_lst {xs : List D} : (D.lst xs).isN = false := rfl
@[simp] theorem isN_dic {kv : List (Key × D)} : (D.dic kv).isN = false := rfl
@[simp] theorem isN_slst {xs : List D} : (D.slst xs).isN = false := rfl
@[simp] theorem isN_ins {c : Str} {fs : List (Str × D)} : (D.ins c fs).isN = false := rfl
@[simp] theorem isN_exc {c : Str} {fs : List (Str × D)} : (D.exc c fs).isN = false := rfl
@[simp] theorem truM_bl : truM T (.bl b) st = .ok b st := rfl
@[simp] theorem truM_int : truM T (.int i) st = .ok (i != 0) st := rfl
@[simp] theorem b_abs_int : b_abs T [.int i] st = .ok (.int (if i < 0 then -i else i)) st := rfl
@[simp] theorem b_int_int : b_int T [.int i] st = .ok (.int i) st := rfl
@[simp] theorem b_int_bl : b_int T [.bl b] st = .ok (.int (if b then 1 else 0)) st := rfl
@[simp] theorem b_bool_int : b_bool T [.int i] st = .ok (.bl (i != 0)) st := rfl
@[simp] theorem b_str_str : b_str T [.str x] st = .ok (.str x) st := rfl
@[simp] theorem b_str_int (h : i.natAbs.log2 < 1920) : b_str T [.int i] st = .ok (.str (toString i : String)) st := by
  have : cStr [.int i] st = .ok (.str (toString i : String)) st := if_pos h
  unfold b_str orU
  rw [this]
@[simp] theorem b_len_str (h : x.length ≤ 1000000) : b_len T [.str x] st = .ok (.int (x.length : Nat)) st := if_pos h
@[simp] theorem b_len_lst {xs : List D} : b_len T [.lst xs] st = .ok (.int (xs.length : Nat)) st := rfl
@[simp] theorem b_len_slst {xs : List D} : b_len T [.slst xs] st = .ok (.int (xs.length : Nat)) st := rfl
@[simp] theorem b_len_tup {xs : List D} : b_len T [.tup xs] st = .ok (.int (xs.length : Nat)) st := rfl
@[simp] theorem mkTup_ {xs : List D} (h : xs.length ≤ 1000000) : mkTup xs st = .ok (.tup xs) st := if_pos h
@[simp] theorem mkLst_ {xs : List D} (h : xs.length ≤ 1000000) : mkLst xs st = .ok (.lst xs) st := if_pos h
@[simp] theorem mkLstM_ {xs : List D} (h : xs.length ≤ 1000000) : mkLstM xs st = .ok (.mref st.length) (st ++ [.lst xs]) := if_pos h
@[simp] theorem gN_ (k : Nat) (d : D) : gN k d n sl st = .nx (sl.set k d) st := rfl
@[simp] theorem gT_ (m : SGs) (ds : List D) : gT m (.tup ds) n sl st = m ds n sl st := rfl
@[simp] theorem gT_lst (m : SGs) (ds : List D) : gT m (.lst ds) n sl st = m ds n sl st := rfl
@[simp] theorem gNil_ : gNil [] n sl st = .nx sl st := rfl
@[simp] theorem gC_ (m : SG) (ms : SGs) (d : D) (ds : List D) : gC m ms (d :: ds) n sl st = match m d n sl st with | .nx sl st => ms ds n sl st | _ => .bad := rfl
@[simp] theorem sAsg_ (m : EE) (g : SG) : sAsg m g n sl st = toS (m sl st) sl fun d st => match g d n sl st with | .nx sl st => .nx sl st | _ => .bad := rfl
@[simp] theorem sPar_ (k l : Nat) (ma : EA) : sPar k l ma n sl st = toS (ma sl st) sl fun ds st => match ds with | [d1, d2] => .nx ((sl.set k d1).set l d2) st | _ => .bad := rfl
@[simp] theorem sPar3_ (k l m : Nat) (ma : EA) : sPar3 k l m ma n sl st = toS (ma sl st) sl fun ds st => match ds with | [d1, d2, d3] => .nx (((sl.set k d1).set l d2).set m d3) st | _ => .bad := rfl
@[simp] theorem sFldM_ (f : Str) (me mv : EE) : sFldM T f me mv n sl st = toS (mv sl st) sl fun v st => toS (me sl st) sl fun d st => match setF T f d v st with | some st => .nx sl st | none => .bad := rfl
@[simp] theorem sRaise_ (c : Str) (fl : List Str) (ma : EA) : sRaise c fl ma n sl st = toS (ma sl st) sl fun ds st => if ds.length = fl.length ∧ ds.length ≤ 1000 then .exc (.exc c (fl.zip ds).reverse) sl st else .bad := rfl
@[simp] theorem sForI_ (m : EI) (g : SG) (b : SS) : sForI m g b n sl st = toS (m sl st) sl fun it st => match it with | .fix xs => forL g b xs n sl st | .live k => forM g b k FU 0 n sl st := rfl
@[simp] theorem iArgs_ (f : List D → MM IT) (m : EA) : iArgs f m sl st = (m sl st).bind f := rfl
@[simp] theorem iSeqT_ (m : EE) : iSeqT m sl st = (m sl st).bind itSeqT := rfl
@[simp] theorem oNone_ : oNone sl st = .ok none st := rfl
@[simp] theorem eSl_ (m : EE) (lo hi : EO) : eSl m lo hi sl st = (m sl st).bind fun d st => (lo sl st).bind fun a st => (hi sl st).bind fun b => mSl d a b := rfl
@[simp] theorem oSome_ (m : EE) : oSome m sl st = (m sl st).bind fun d st => match d with | .int i => .ok (some i) st | _ => .bad := rfl
@[simp] theorem sTry_ (c : Str) (k : Nat) (mb ms : SS) : sTry T c k mb ms n sl st = match mb n sl st with
  | .exc (.exc c' gs) sl st => if T.exm c' c = true then unS k (ms n (sl.set k (.exc c' gs)) st) else .bad
  | .exc _ _ _ => .bad
  | r => r := rfl
@[simp] theorem unS_nx (k : Nat) : unS k (.nx sl st) = .nx (sl.unset k) st := rfl
@[simp] theorem unS_rt (k : Nat) (d : D) : unS k (.rt d st) = .rt d st := rfl
@[simp] theorem unS_toS (k : Nat) (r : Res α) (f : α → Sto → SR) : unS k (toS r sl f) = match r with | .ok a st => unS k (f a st) | _ => .bad := by cases r <;> rfl
theorem mAttr_exc (f : Str) (c : Str) (gs : List (Str × D)) (v : D) (h1 : T.kind c f = .xabs) (h2 : gs.lookup f = some v) : mAttr T f (.exc c gs) st = .ok v st := by unfold mAttr; simp only [h1, h2]
def atR (o : Option D) : MM D := fun st => match o with | some v => .ok v st | none => .bad
def prR (r : Res D) : Res D := match r with | .ok v st => .ok v st | _ => .bad
def negR (r : D) : MM D := fun st => match r with | .bl b => .ok (.bl (!b)) st | _ => .bad
def isBD (r : D) : MM D := fun st => match r with | .bl b => .ok (.bl b) st | _ => .bad
open Classical in
noncomputable def mkR (c : Str) (st : Sto) (r : Res D) : Res D := match r with
    | .ok .non st3 => match st3[st.length]? with
      | some (.ins c' gs) => if c' = c ∧ cleanF st.length gs = true ∧ okCut st st3 then .ok (.ins c gs) (st3.take st.length) else .bad
      | _ => .bad
    | .exc e st3 => if e.clean st.length = true ∧ okCut st st3 then .exc e (st3.take st.length) else .bad
    | _ => .bad
@[simp] theorem atR_some (v : D) : atR (some v) st = .ok v st := rfl
@[simp] theorem prR_ok (v : D) : prR (.ok v st) = .ok v st := rfl
@[simp] theorem negR_bl : negR (.bl b) st = .ok (.bl (!b)) st := rfl
@[simp] theorem isBD_bl : isBD (.bl b) st = .ok (.bl b) st := rfl
@[simp] theorem isStr_str : isStr (.str x) st = .ok (.str x) st := rfl
@[simp] theorem mkR_ok {c : Str} {gs : List (Str × D)} (h : cleanF st.length gs = true) : mkR c st (.ok .non (st ++ [.ins c gs])) = .ok (.ins c gs) st := by
  unfold mkR
  simp only [List.getElem?_concat_length]
  rw [if_pos ⟨rfl, h, okCut_snoc _⟩]
  simp
@[simp] theorem mkR_exc {c : Str} {o : MO} {e : D} (h : e.clean st.length = true) : mkR c st (.exc e (st ++ [o])) = .exc e st := by
  unfold mkR
  simp only []
  rw [if_pos ⟨h, okCut_snoc _⟩]
  simp
@[simp] theorem setF_last {f c : Str} {v : D} {gs : List (Str × D)} (h : T.kind c f = .abs) (h2 : gs.length < 1000) : setF T f (.mref st.length) v (st ++ [.ins c gs]) = some (st ++ [.ins c (putD f v gs)]) := by
  unfold setF
  simp only [List.getElem?_concat_length, h, if_pos h2]
  simp
@[simp] theorem getE_last (o : MO) : (st ++ [o])[st.length]? = some o := by simp
@[simp] theorem set_last (o o' : MO) : (st ++ [o]).set st.length o' = st ++ [o'] := by simp
/-! loops -/
def SR.lp (r : SR) (f : Sl → Sto → SR) : SR := match r with
  | .nx sl st => f sl st
  | .ct sl st => f sl st
  | .bk sl st => .nx sl st
  | r => r
@[simp] theorem lp_nx (f : Sl → Sto → SR) : (SR.nx sl st).lp f = f sl st := rfl
@[simp] theorem lp_ct (f : Sl → Sto → SR) : (SR.ct sl st).lp f = f sl st := rfl
@[simp] theorem lp_bk (f : Sl → Sto → SR) : (SR.bk sl st).lp f = .nx sl st := rfl
@[simp] theorem lp_rt (d : D) (f : Sl → Sto → SR) : (SR.rt d st).lp f = .rt d st := rfl
@[simp] theorem lp_exc (e : D) (f : Sl → Sto → SR) : (SR.exc e sl st).lp f = .exc e sl st := rfl
@[simp] theorem lp_bad (f : Sl → Sto → SR) : SR.bad.lp f = .bad := rfl
@[simp] theorem lp_toS (r : Res α) (f : α → Sto → SR) (g : Sl → Sto → SR) : (toS r sl f).lp g = toS r sl fun a s => (f a s).lp g := by cases r <;> rfl
theorem while_ (c : ET) (b : SS) (f : Nat) : sWhileF c b (f + 1) n sl st = toS (c sl st) sl fun x st => if x = true then (b n sl st).lp (sWhileF c b f n) else .nx sl st := by
  show wTurn c b (sWhileF c b f) n sl st = _
  unfold wTurn SR.lp
  rfl
theorem forL_nil (g : SG) (b : SS) : forL g b [] n sl st = .nx sl st := rfl
theorem forL_cons (g : SG) (b : SS) (d : D) (ds : List D) : forL g b (d :: ds) n sl st = match g d n sl st with | .nx sl st => (b n sl st).lp (forL g b ds n) | _ => .bad := by
  show forTurn g b d (forL g b ds) n sl st = _
  unfold forTurn SR.lp
  rfl
/-! ### what is wanted behind -/
def Res.wq (r : Res α) (Q : α → Sto → Prop) (E : D → Sto → Prop) : Prop := match r with
  | .ok a s => Q a s
  | .exc e s => E e s
  | .bad => False
structure Res.wp (r : Res α) (Q : α → Sto → Prop) (E : D → Sto → Prop := fun _ _ => False) : Prop where
  q : r.wq Q E
def SR.wq (r : SR) (Z : SR → Prop) : Prop := match r with
  | .bad => False
  | r => Z r
structure SR.wp (r : SR) (Z : SR → Prop) : Prop where
  q : r.wq Z
variable {Q : α → Sto → Prop} {E : D → Sto → Prop} {Z : SR → Prop}
@[simp] theorem wp_ok (a : α) : (Res.ok a st).wp Q E = Q a st := propext ⟨fun h => h.q, fun h => ⟨h⟩⟩
@[simp] theorem wp_exc (e : D) : (Res.exc e st : Res α).wp Q E = E e st := propext ⟨fun h => h.q, fun h => ⟨h⟩⟩
theorem wp_bad : (Res.bad : Res α).wp Q E = False := propext ⟨fun h => h.q, fun h => ⟨h⟩⟩
theorem wp_bind {r : Res β} {f : β → MM α} (h : r.wp (fun a s => (f a s).wp Q E) E) : (r.bind f).wp Q E := by
  cases r with
  | ok a s => exact h.q
  | exc e s => exact ⟨h.q⟩
  | bad => exact h.q.elim
theorem wp_mono {r : Res α} {Q' : α → Sto → Prop} {E' : D → Sto → Prop} (h : r.wp Q' E') (k : ∀ a s, Q' a s → Q a s) (k2 : ∀ a s, E' a s → E a s) : r.wp Q E := by
  cases r with
  | ok a s => exact ⟨k _ _ h.q⟩
  | exc e s => exact ⟨k2 _ _ h.q⟩
  | bad => exact h.q.elim
@[simp] theorem wps_nx : (SR.nx sl st).wp Z = Z (.nx sl st) := propext ⟨fun h => h.q, fun h => ⟨h⟩⟩
@[simp] theorem wps_rt (d : D) : (SR.rt d st).wp Z = Z (.rt d st) := propext ⟨fun h => h.q, fun h => ⟨h⟩⟩
@[simp] theorem wps_ct : (SR.ct sl st).wp Z = Z (.ct sl st) := propext ⟨fun h => h.q, fun h => ⟨h⟩⟩
@[simp] theorem wps_bk : (SR.bk sl st).wp Z = Z (.bk sl st) := propext ⟨fun h => h.q, fun h => ⟨h⟩⟩
@[simp] theorem wps_exc (e : D) : (SR.exc e sl st).wp Z = Z (.exc e sl st) := propext ⟨fun h => h.q, fun h => ⟨h⟩⟩
theorem wps_bad : SR.bad.wp Z = False := propext ⟨fun h => h.q, fun h => ⟨h⟩⟩
theorem wp_toS {r : Res β} {f : β → Sto → SR} (h : r.wp (fun a s => (f a s).wp Z) (fun e s => Z (.exc e sl s))) : (toS r sl f).wp Z := by
  cases r with
  | ok a s => exact h.q
  | exc e s => exact ⟨h.q⟩
  | bad => exact h.q.elim
theorem wp_fin {r : Res β} {f : β → Sto → SR} {Q : D → Sto → Prop} (h : r.wp (fun a s => (fin st (f a s)).wp Q E) (fun e s => (cutX st e s).wp Q E)) : (fin st (toS r sl f)).wp Q E := by
  cases r with
  | ok a s => exact h.q
  | exc e s => exact h.q
  | bad => exact h.q.elim
theorem wp_sq {r : SR} {f : Sl → Sto → SR} (h : r.wp (fun r => match r with | .nx sl st => (f sl st).wp Z | r => Z r)) : (r.sq f).wp Z := by
  cases r with
  | nx sl s => exact h.q
  | bad => exact h.q.elim
  | _ => exact ⟨h.q⟩
theorem wp_finS {r : SR} {Q : D → Sto → Prop} (h : r.wp (fun r => (fin st r).wp Q E)) : (fin st r).wp Q E := by
  cases r with
  | bad => exact h.q.elim
  | _ => exact h.q
theorem wp_finSq {r : SR} {f : Sl → Sto → SR} {Q : D → Sto → Prop} (h : r.wp (fun r => match r with | .nx sl st' => (fin st (f sl st')).wp Q E | r => (fin st r).wp Q E)) : (fin st (r.sq f)).wp Q E := by
  cases r with
  | bad => exact h.q.elim
  | _ => exact h.q
theorem wps_mono {r : SR} {Z' : SR → Prop} (h : r.wp Z') (k : ∀ r, Z' r → Z r) : r.wp Z := by
  cases r with
  | bad => exact h.q.elim
  | _ => exact ⟨k _ h.q⟩
theorem wp_ite {c : Prop} [Decidable c] {a b : Res α} (h1 : c → a.wp Q E) (h2 : ¬ c → b.wp Q E) : (if c then a else b).wp Q E := by split <;> simp_all
theorem wps_ite {c : Prop} [Decidable c] {a b : SR} (h1 : c → a.wp Z) (h2 : ¬ c → b.wp Z) : (if c then a else b).wp Z := by split <;> simp_all
theorem wpf_ite {c : Prop} [Decidable c] {a b : SR} {Q : D → Sto → Prop} (h1 : c → (fin st a).wp Q E) (h2 : ¬ c → (fin st b).wp Q E) : (fin st (if c then a else b)).wp Q E := by split <;> simp_all
theorem ok_of_wp {r : Res α} (h : r.wp Q) : ∃ a s, r = .ok a s ∧ Q a s := by
  cases r with
  | ok a s => exact ⟨a, s, rfl, h.q⟩
  | exc e s => exact h.q.elim
  | bad => exact h.q.elim
theorem wp_eq {r : Res α} {a : α} {s : Sto} (e : r = .ok a s) (h : Q a s) : r.wp Q E := by rw [e]; exact ⟨h⟩
theorem wp_eqx {r : Res α} {e : D} {s : Sto} (h1 : r = .exc e s) (h : E e s) : r.wp Q E := by rw [h1]; exact ⟨h⟩
/-- for: I i holds ahead of turn i -/
theorem wp_for {xs : List D} {g : SG} {b : SS} (I : Nat → Sl → Sto → Prop) (h0 : I 0 sl st) (he : ∀ sl st, I xs.length sl st → Z (.nx sl st))
    (step : ∀ i x sl st, xs[i]? = some x → I i sl st → SR.wp (match g x n sl st with | .nx sl st => b n sl st | _ => .bad) (fun r => match r with | .nx sl st => I (i + 1) sl st | .ct sl st => I (i + 1) sl st | .bk sl st => Z (.nx sl st) | r => Z r)) : (forL g b xs n sl st).wp Z := by
  have main : ∀ (ys : List D) (i : Nat) (sl : Sl) (st : Sto), ys = xs.drop i → i + ys.length = xs.length → I i sl st → (forL g b ys n sl st).wp Z := by
    intro ys
    induction ys with
    | nil =>
      intro i sl st _ hl hi
      simp at hl
      subst hl
      exact ⟨he sl st hi⟩
    | cons y ys ih =>
      intro i sl st hy hl hi
      have hx : xs[i]? = some y := by
        have := congrArg (·[0]?) hy
        simp at this
        exact this.symm
      have h1 := (step i y sl st hx hi).q
      rw [forL_cons]
      revert h1
      cases g y n sl st with
      | nx sl2 st2 =>
        simp only []
        have ih' := fun sl st => ih (i + 1) sl st (by
          have := congrArg (List.drop 1) hy
          simpa using this) (by simp at hl; omega)
        cases b n sl2 st2 with
        | nx sl3 st3 => exact fun h => ih' _ _ h
        | ct sl3 st3 => exact fun h => ih' _ _ h
        | bk sl3 st3 => exact fun h => ⟨h⟩
        | rt d st3 => exact fun h => ⟨h⟩
        | exc e sl3 st3 => exact fun h => ⟨h⟩
        | bad => exact fun h => h.elim
      | _ => exact fun h => h.elim
  exact main xs 0 sl st (by simp) (by simp) h0
@[simp] theorem cleanF_nil : cleanF n [] = true := rfl
@[simp] theorem cleanF_cons {f : Str} {d : D} {fs : List (Str × D)} : cleanF n ((f, d) :: fs) = (d.clean n && cleanF n fs) := rfl
@[simp] theorem cleanL_nil : cleanL n [] = true := rfl
@[simp] theorem cleanL_cons {d : D} {ds : List D} : cleanL n (d :: ds) = (d.clean n && cleanL n ds) := rfl
@[simp] theorem clean_int : (D.int i).clean n = true := rfl
@[simp] theorem clean_bl : (D.bl b).clean n = true := rfl
@[simp] theorem clean_str : (D.str x).clean n = true := rfl
@[simp] theorem clean_non : D.non.clean n = true := rfl
@[simp] theorem clean_glo : (D.glo x).clean n = true := rfl
@[simp] theorem clean_ty {x : String} : (D.ty x).clean n = true := rfl
@[simp] theorem clean_tup {ds : List D} : (D.tup ds).clean n = cleanL n ds := rfl
@[simp] theorem clean_lst {ds : List D} : (D.lst ds).clean n = cleanL n ds := rfl
@[simp] theorem clean_ins {c : Str} {fs : List (Str × D)} : (D.ins c fs).clean n = cleanF n fs := rfl
@[simp] theorem clean_exc {c : Str} {fs : List (Str × D)} : (D.exc c fs).clean n = cleanF n fs := rfl
@[simp] theorem eJs_ (ms : List EE) : eJs ms sl st = jsM ms Str.empty sl st := rfl
@[simp] theorem jsM_nil (acc : Str) : jsM [] acc sl st = .ok (.str acc) st := rfl
@[simp] theorem jsM_cons (m : EE) (ms : List EE) (acc : Str) : jsM (m :: ms) acc sl st = (m sl st).bind fun d st => match d with
    | .str y => if (acc ++ y).length ≤ 1000000 then jsM ms (acc ++ y) sl st else .bad
    | _ => .bad := rfl
@[simp] theorem mFmt_str (h : x.length ≤ 1000000) : mFmt T (.str x) st = .ok (.str x) st := if_pos h
@[simp] theorem mFmt_int (h : i.natAbs.log2 < 1920) : mFmt T (.int i) st = .ok (.str (toString i : String)) st := if_pos h
@[simp] theorem str_app_len (x y : Str) : (x ++ y).length = x.length + y.length := by
  show (x.cps ++ y.cps).size = x.cps.size + y.cps.size
  simp
@[simp] theorem str_emp_app (x : Str) : Str.empty ++ x = x := by
  show (⟨#[] ++ x.cps⟩ : Str) = x
  simp
@[simp] theorem str_app_emp (x : Str) : x ++ Str.empty = x := by
  show (⟨x.cps ++ #[]⟩ : Str) = x
  simp
@[simp] theorem eDic_ (kvs : List (Key × D)) : eDic kvs sl st = .ok (.dic kvs) st := rfl
end
end MP
set_option Elab.async false
set_option linter.all false
/-! objects of the program's classes as trees -/
namespace MP
open PySem PySem.Spec PyProof.Rows L2 SP
def amt (q : Rat) : D := .ins "Amount" [("top", .int q.num), ("bottom", .int q.den)]
def sth (a b : Rat) : D := .ins "Stretch" [("low", amt a), ("high", amt b)]
end MP
set_option Elab.async false
set_option linter.all false
set_option maxRecDepth 100000
set_option maxHeartbeats 1000000
namespace MP
open PySem PySem.Spec PyProof.Rows L2 SP
section
variable {run : Str → List D → MM D} {st : Sto} {j : Nat}
@[simp] theorem sta_run : (sta run).run = run := rfl
theorem e_is_integer {x0 : D} : rn (j + 1) ("is_integer" : Str) [x0] st = fin st (b_is_integer (sta (rn j)) st.length ⟨[some x0], false⟩ st) := by kernel_rfl
theorem e_is_plain {x0 : D} : rn (j + 1) ("is_plain" : Str) [x0] st = fin st (b_is_plain (sta (rn j)) st.length ⟨[some x0], false⟩ st) := by kernel_rfl
theorem e_shared_divisor {x0 x1 : D} : rn (j + 1) ("shared_divisor" : Str) [x0, x1] st = fin st (b_shared_divisor (sta (rn j)) st.length ⟨[some x0, some x1], false⟩ st) := by kernel_rfl
theorem e_Amount_init_2 {x0 x1 : D} : rn (j + 1) ("Amount.__init__" : Str) [x0, x1] st = fin st (b_Amount_init (sta (rn j)) st.length ⟨[some x0, some x1, some (.int (1)), none], false⟩ st) := by kernel_rfl
theorem e_Amount_init {x0 x1 x2 : D} : rn (j + 1) ("Amount.__init__" : Str) [x0, x1, x2] st = fin st (b_Amount_init (sta (rn j)) st.length ⟨[some x0, some x1, some x2, none], false⟩ st) := by kernel_rfl
theorem e_Amount_is_number {x0 : D} : rn (j + 1) ("Amount.is_number" : Str) [x0] st = fin st (b_Amount_is_number (sta (rn j)) st.length ⟨[some x0], false⟩ st) := by kernel_rfl
theorem e_Amount_of {x0 : D} : rn (j + 1) ("Amount.of" : Str) [x0] st = fin st (b_Amount_of (sta (rn j)) st.length ⟨[some x0], false⟩ st) := by kernel_rfl
theorem e_Amount_per {x0 x1 : D} : rn (j + 1) ("Amount.per" : Str) [x0, x1] st = fin st (b_Amount_per (sta (rn j)) st.length ⟨[some x0, some x1, none], false⟩ st) := by kernel_rfl
theorem e_Amount_add {x0 x1 : D} : rn (j + 1) ("Amount.__add__" : Str) [x0, x1] st = fin st (b_Amount_add (sta (rn j)) st.length ⟨[some x0, some x1, none], false⟩ st) := by kernel_rfl
theorem e_Amount_radd {x0 x1 : D} : rn (j + 1) ("Amount.__radd__" : Str) [x0, x1] st = fin st (b_Amount_radd (sta (rn j)) st.length ⟨[some x0, some x1], false⟩ st) := by kernel_rfl
theorem e_Amount_sub {x0 x1 : D} : rn (j + 1) ("Amount.__sub__" : Str) [x0, x1] st = fin st (b_Amount_sub (sta (rn j)) st.length ⟨[some x0, some x1, none], false⟩ st) := by kernel_rfl
theorem e_Amount_rsub {x0 x1 : D} : rn (j + 1) ("Amount.__rsub__" : Str) [x0, x1] st = fin st (b_Amount_rsub (sta (rn j)) st.length ⟨[some x0, some x1], false⟩ st) := by kernel_rfl
theorem e_Amount_mul {x0 x1 : D} : rn (j + 1) ("Amount.__mul__" : Str) [x0, x1] st = fin st (b_Amount_mul (sta (rn j)) st.length ⟨[some x0, some x1, none], false⟩ st) := by kernel_rfl
theorem e_Amount_rmul {x0 x1 : D} : rn (j + 1) ("Amount.__rmul__" : Str) [x0, x1] st = fin st (b_Amount_rmul (sta (rn j)) st.length ⟨[some x0, some x1], false⟩ st) := by kernel_rfl
theorem e_Amount_floordiv {x0 x1 : D} : rn (j + 1) ("Amount.__floordiv__" : Str) [x0, x1] st = fin st (b_Amount_floordiv (sta (rn j)) st.length ⟨[some x0, some x1, none], false⟩ st) := by kernel_rfl
theorem e_Amount_rfloordiv {x0 x1 : D} : rn (j + 1) ("Amount.__rfloordiv__" : Str) [x0, x1] st = fin st (b_Amount_rfloordiv (sta (rn j)) st.length ⟨[some x0, some x1], false⟩ st) := by kernel_rfl
theorem e_Amount_mod {x0 x1 : D} : rn (j + 1) ("Amount.__mod__" : Str) [x0, x1] st = fin st (b_Amount_mod (sta (rn j)) st.length ⟨[some x0, some x1], false⟩ st) := by kernel_rfl
theorem e_Amount_rmod {x0 x1 : D} : rn (j + 1) ("Amount.__rmod__" : Str) [x0, x1] st = fin st (b_Amount_rmod (sta (rn j)) st.length ⟨[some x0, some x1], false⟩ st) := by kernel_rfl
theorem e_Amount_neg {x0 : D} : rn (j + 1) ("Amount.__neg__" : Str) [x0] st = fin st (b_Amount_neg (sta (rn j)) st.length ⟨[some x0], false⟩ st) := by kernel_rfl
theorem e_Amount_abs {x0 : D} : rn (j + 1) ("Amount.__abs__" : Str) [x0] st = fin st (b_Amount_abs (sta (rn j)) st.length ⟨[some x0], false⟩ st) := by kernel_rfl
theorem e_Amount_bool {x0 : D} : rn (j + 1) ("Amount.__bool__" : Str) [x0] st = fin st (b_Amount_bool (sta (rn j)) st.length ⟨[some x0], false⟩ st) := by kernel_rfl
theorem e_Amount_eq {x0 x1 : D} : rn (j + 1) ("Amount.__eq__" : Str) [x0, x1] st = fin st (b_Amount_eq (sta (rn j)) st.length ⟨[some x0, some x1], false⟩ st) := by kernel_rfl
theorem e_Amount_lt {x0 x1 : D} : rn (j + 1) ("Amount.__lt__" : Str) [x0, x1] st = fin st (b_Amount_lt (sta (rn j)) st.length ⟨[some x0, some x1, none], false⟩ st) := by kernel_rfl
theorem e_Amount_le {x0 x1 : D} : rn (j + 1) ("Amount.__le__" : Str) [x0, x1] st = fin st (b_Amount_le (sta (rn j)) st.length ⟨[some x0, some x1, none], false⟩ st) := by kernel_rfl
theorem e_Amount_gt {x0 x1 : D} : rn (j + 1) ("Amount.__gt__" : Str) [x0, x1] st = fin st (b_Amount_gt (sta (rn j)) st.length ⟨[some x0, some x1, none], false⟩ st) := by kernel_rfl
theorem e_Amount_ge {x0 x1 : D} : rn (j + 1) ("Amount.__ge__" : Str) [x0, x1] st = fin st (b_Amount_ge (sta (rn j)) st.length ⟨[some x0, some x1, none], false⟩ st) := by kernel_rfl
theorem e_Amount_str {x0 : D} : rn (j + 1) ("Amount.__str__" : Str) [x0] st = fin st (b_Amount_str (sta (rn j)) st.length ⟨[some x0], false⟩ st) := by kernel_rfl
theorem e_divisor_of {x0 : D} : rn (j + 1) ("divisor_of" : Str) [x0] st = fin st (b_divisor_of (sta (rn j)) st.length ⟨[some x0], false⟩ st) := by kernel_rfl
theorem e_law_pen {x0 : D} : rn (j + 1) ("_law_pen" : Str) [x0] st = finK (b_law_pen (sta (rn j)) st.length ⟨[some x0], false⟩ st) := by kernel_rfl
theorem e_law_draw {x0 x1 : D} : rn (j + 1) ("_law_draw" : Str) [x0, x1] st = fin st (b_law_draw (sta (rn j)) st.length ⟨[some x0, some x1, none, none, none, none, none], false⟩ st) := by kernel_rfl
theorem e_law_pick {x0 x1 : D} : rn (j + 1) ("_law_pick" : Str) [x0, x1] st = fin st (b_law_pick (sta (rn j)) st.length ⟨[some x0, some x1], false⟩ st) := by kernel_rfl
theorem e_law_pair {x0 : D} : rn (j + 1) ("_law_pair" : Str) [x0] st = fin st (b_law_pair (sta (rn j)) st.length ⟨[some x0, none, none, none], false⟩ st) := by kernel_rfl
theorem e_law_low {x0 x1 : D} : rn (j + 1) ("_law_low" : Str) [x0, x1] st = fin st (b_law_low (sta (rn j)) st.length ⟨[some x0, some x1, none, none, none], false⟩ st) := by kernel_rfl
theorem e_law_made {x0 x1 : D} : rn (j + 1) ("_law_made" : Str) [x0, x1] st = fin st (b_law_made (sta (rn j)) st.length ⟨[some x0, some x1, none], false⟩ st) := by kernel_rfl
theorem e_law_operand {x0 x1 : D} : rn (j + 1) ("_law_operand" : Str) [x0, x1] st = fin st (b_law_operand (sta (rn j)) st.length ⟨[some x0, some x1, none, none], false⟩ st) := by kernel_rfl
theorem e_law_is {x0 x1 x2 : D} : rn (j + 1) ("_law_is" : Str) [x0, x1, x2] st = fin st (b_law_is (sta (rn j)) st.length ⟨[some x0, some x1, some x2], false⟩ st) := by kernel_rfl
theorem e_law_sums_right {x0 x1 x2 x3 : D} : rn (j + 1) ("_law_sums_right" : Str) [x0, x1, x2, x3] st = fin st (b_law_sums_right (sta (rn j)) st.length ⟨[some x0, some x1, some x2, some x3, none, none, none, none, none, none, none], false⟩ st) := by kernel_rfl
theorem e_law_parts_right {x0 x1 x2 x3 x4 : D} : rn (j + 1) ("_law_parts_right" : Str) [x0, x1, x2, x3, x4] st = fin st (b_law_parts_right (sta (rn j)) st.length ⟨[some x0, some x1, some x2, some x3, some x4, none, none, none, none, none], false⟩ st) := by kernel_rfl
theorem e_law_is_refused {x0 : D} : rn (j + 1) ("_law_is_refused" : Str) [x0] st = fin st (b_law_is_refused (sta (rn j)) st.length ⟨[some x0, none, none], false⟩ st) := by kernel_rfl
theorem e_law_quotients_right {x0 x1 x2 x3 : D} : rn (j + 1) ("_law_quotients_right" : Str) [x0, x1, x2, x3] st = fin st (b_law_quotients_right (sta (rn j)) st.length ⟨[some x0, some x1, some x2, some x3, none, none], false⟩ st) := by kernel_rfl
theorem e_law_in_place_right {x0 x1 x2 x3 : D} : rn (j + 1) ("_law_in_place_right" : Str) [x0, x1, x2, x3] st = fin st (b_law_in_place_right (sta (rn j)) st.length ⟨[some x0, some x1, some x2, some x3, none, none, none, none, none], false⟩ st) := by kernel_rfl
theorem e_law {x0 : D} : rn (j + 1) ("law" : Str) [x0] st = fin st (b_law (sta (rn j)) st.length ⟨[some x0, none, none, none, none, none, none], false⟩ st) := by kernel_rfl
@[simp] theorem isi_non_Amount  : b_isinstance (sta run) [.non, D.glo ("Amount" : Str)] st = .ok (.bl false) st := by kernel_rfl
@[simp] theorem isi_non_BadNumber  : b_isinstance (sta run) [.non, D.glo ("BadNumber" : Str)] st = .ok (.bl false) st := by kernel_rfl
@[simp] theorem isi_non_bool  : b_isinstance (sta run) [.non, D.ty "bool"] st = .ok (.bl false) st := by kernel_rfl
@[simp] theorem isi_non_int  : b_isinstance (sta run) [.non, D.ty "int"] st = .ok (.bl false) st := by kernel_rfl
@[simp] theorem isi_non_str  : b_isinstance (sta run) [.non, D.ty "str"] st = .ok (.bl false) st := by kernel_rfl
@[simp] theorem isit_non_1  : b_isinstance (sta run) [.non, .tup [D.ty "bool", D.ty "int", D.ty "str", D.ty "list", D.ty "tuple", D.ty "dict"]] st = .ok (.bl false) st := by kernel_rfl
@[simp] theorem isi_bl_Amount {b : Bool} : b_isinstance (sta run) [.bl b, D.glo ("Amount" : Str)] st = .ok (.bl false) st := by kernel_rfl
@[simp] theorem isi_bl_BadNumber {b : Bool} : b_isinstance (sta run) [.bl b, D.glo ("BadNumber" : Str)] st = .ok (.bl false) st := by kernel_rfl
@[simp] theorem isi_bl_bool {b : Bool} : b_isinstance (sta run) [.bl b, D.ty "bool"] st = .ok (.bl true) st := by kernel_rfl
@[simp] theorem isi_bl_int {b : Bool} : b_isinstance (sta run) [.bl b, D.ty "int"] st = .ok (.bl true) st := by kernel_rfl
@[simp] theorem isi_bl_str {b : Bool} : b_isinstance (sta run) [.bl b, D.ty "str"] st = .ok (.bl false) st := by kernel_rfl
@[simp] theorem isit_bl_2 {b : Bool} : b_isinstance (sta run) [.bl b, .tup [D.ty "bool", D.ty "int", D.ty "str", D.ty "list", D.ty "tuple", D.ty "dict"]] st = .ok (.bl true) st := by kernel_rfl
@[simp] theorem isi_int_Amount {i : Int} : b_isinstance (sta run) [.int i, D.glo ("Amount" : Str)] st = .ok (.bl false) st := by kernel_rfl
@[simp] theorem isi_int_BadNumber {i : Int} : b_isinstance (sta run) [.int i, D.glo ("BadNumber" : Str)] st = .ok (.bl false) st := by kernel_rfl
@[simp] theorem isi_int_bool {i : Int} : b_isinstance (sta run) [.int i, D.ty "bool"] st = .ok (.bl false) st := by kernel_rfl
@[simp] theorem isi_int_int {i : Int} : b_isinstance (sta run) [.int i, D.ty "int"] st = .ok (.bl true) st := by kernel_rfl
@[simp] theorem isi_int_str {i : Int} : b_isinstance (sta run) [.int i, D.ty "str"] st = .ok (.bl false) st := by kernel_rfl
@[simp] theorem isit_int_3 {i : Int} : b_isinstance (sta run) [.int i, .tup [D.ty "bool", D.ty "int", D.ty "str", D.ty "list", D.ty "tuple", D.ty "dict"]] st = .ok (.bl true) st := by kernel_rfl
@[simp] theorem isi_str_Amount {x : Str} : b_isinstance (sta run) [.str x, D.glo ("Amount" : Str)] st = .ok (.bl false) st := by kernel_rfl
@[simp] theorem isi_str_BadNumber {x : Str} : b_isinstance (sta run) [.str x, D.glo ("BadNumber" : Str)] st = .ok (.bl false) st := by kernel_rfl
@[simp] theorem isi_str_bool {x : Str} : b_isinstance (sta run) [.str x, D.ty "bool"] st = .ok (.bl false) st := by kernel_rfl
@[simp] theorem isi_str_int {x : Str} : b_isinstance (sta run) [.str x, D.ty "int"] st = .ok (.bl false) st := by kernel_rfl
@[simp] theorem isi_str_str {x : Str} : b_isinstance (sta run) [.str x, D.ty "str"] st = .ok (.bl true) st := by kernel_rfl
@[simp] theorem isit_str_4 {x : Str} : b_isinstance (sta run) [.str x, .tup [D.ty "bool", D.ty "int", D.ty "str", D.ty "list", D.ty "tuple", D.ty "dict"]] st = .ok (.bl true) st := by kernel_rfl
@[simp] theorem isi_tup_Amount {xs : List D} : b_isinstance (sta run) [.tup xs, D.glo ("Amount" : Str)] st = .ok (.bl false) st := by kernel_rfl
@[simp] theorem isi_tup_BadNumber {xs : List D} : b_isinstance (sta run) [.tup xs, D.glo ("BadNumber" : Str)] st = .ok (.bl false) st := by kernel_rfl
@[simp] theorem isi_tup_bool {xs : List D} : b_isinstance (sta run) [.tup xs, D.ty "bool"] st = .ok (.bl false) st := by kernel_rfl
@[simp] theorem isi_tup_int {xs : List D} : b_isinstance (sta run) [.tup xs, D.ty "int"] st = .ok (.bl false) st := by kernel_rfl
@[simp] theorem isi_tup_str {xs : List D} : b_isinstance (sta run) [.tup xs, D.ty "str"] st = .ok (.bl false) st := by kernel_rfl
@[simp] theorem isit_tup_5 {xs : List D} : b_isinstance (sta run) [.tup xs, .tup [D.ty "bool", D.ty "int", D.ty "str", D.ty "list", D.ty "tuple", D.ty "dict"]] st = .ok (.bl true) st := by kernel_rfl
@[simp] theorem isi_lst_Amount {xs : List D} : b_isinstance (sta run) [.lst xs, D.glo ("Amount" : Str)] st = .ok (.bl false) st := by kernel_rfl
@[simp] theorem isi_lst_BadNumber {xs : List D} : b_isinstance (sta run) [.lst xs, D.glo ("BadNumber" : Str)] st = .ok (.bl false) st := by kernel_rfl
@[simp] theorem isi_lst_bool {xs : List D} : b_isinstance (sta run) [.lst xs, D.ty "bool"] st = .ok (.bl false) st := by kernel_rfl
@[simp] theorem isi_lst_int {xs : List D} : b_isinstance (sta run) [.lst xs, D.ty "int"] st = .ok (.bl false) st := by kernel_rfl
@[simp] theorem isi_lst_str {xs : List D} : b_isinstance (sta run) [.lst xs, D.ty "str"] st = .ok (.bl false) st := by kernel_rfl
@[simp] theorem isit_lst_6 {xs : List D} : b_isinstance (sta run) [.lst xs, .tup [D.ty "bool", D.ty "int", D.ty "str", D.ty "list", D.ty "tuple", D.ty "dict"]] st = .ok (.bl true) st := by kernel_rfl
@[simp] theorem isi_slst_Amount {xs : List D} : b_isinstance (sta run) [.slst xs, D.glo ("Amount" : Str)] st = .ok (.bl false) st := by kernel_rfl
@[simp] theorem isi_slst_BadNumber {xs : List D} : b_isinstance (sta run) [.slst xs, D.glo ("BadNumber" : Str)] st = .ok (.bl false) st := by kernel_rfl
@[simp] theorem isi_slst_bool {xs : List D} : b_isinstance (sta run) [.slst xs, D.ty "bool"] st = .ok (.bl false) st := by kernel_rfl
@[simp] theorem isi_slst_int {xs : List D} : b_isinstance (sta run) [.slst xs, D.ty "int"] st = .ok (.bl false) st := by kernel_rfl
@[simp] theorem isi_slst_str {xs : List D} : b_isinstance (sta run) [.slst xs, D.ty "str"] st = .ok (.bl false) st := by kernel_rfl
@[simp] theorem isit_slst_7 {xs : List D} : b_isinstance (sta run) [.slst xs, .tup [D.ty "bool", D.ty "int", D.ty "str", D.ty "list", D.ty "tuple", D.ty "dict"]] st = .ok (.bl true) st := by kernel_rfl
@[simp] theorem isi_dic_Amount {kv : List (Key × D)} : b_isinstance (sta run) [.dic kv, D.glo ("Amount" : Str)] st = .ok (.bl false) st := by kernel_rfl
@[simp] theorem isi_dic_BadNumber {kv : List (Key × D)} : b_isinstance (sta run) [.dic kv, D.glo ("BadNumber" : Str)] st = .ok (.bl false) st := by kernel_rfl
@[simp] theorem isi_dic_bool {kv : List (Key × D)} : b_isinstance (sta run) [.dic kv, D.ty "bool"] st = .ok (.bl false) st := by kernel_rfl
@[simp] theorem isi_dic_int {kv : List (Key × D)} : b_isinstance (sta run) [.dic kv, D.ty "int"] st = .ok (.bl false) st := by kernel_rfl
@[simp] theorem isi_dic_str {kv : List (Key × D)} : b_isinstance (sta run) [.dic kv, D.ty "str"] st = .ok (.bl false) st := by kernel_rfl
@[simp] theorem isit_dic_8 {kv : List (Key × D)} : b_isinstance (sta run) [.dic kv, .tup [D.ty "bool", D.ty "int", D.ty "str", D.ty "list", D.ty "tuple", D.ty "dict"]] st = .ok (.bl true) st := by kernel_rfl
@[simp] theorem isi_Amount_Amount {q : Rat} : b_isinstance (sta run) [(amt q), D.glo ("Amount" : Str)] st = .ok (.bl true) st := by kernel_rfl
@[simp] theorem isi_Amount_BadNumber {q : Rat} : b_isinstance (sta run) [(amt q), D.glo ("BadNumber" : Str)] st = .ok (.bl false) st := by kernel_rfl
@[simp] theorem isi_Amount_bool {q : Rat} : b_isinstance (sta run) [(amt q), D.ty "bool"] st = .ok (.bl false) st := by kernel_rfl
@[simp] theorem isi_Amount_int {q : Rat} : b_isinstance (sta run) [(amt q), D.ty "int"] st = .ok (.bl false) st := by kernel_rfl
@[simp] theorem isi_Amount_str {q : Rat} : b_isinstance (sta run) [(amt q), D.ty "str"] st = .ok (.bl false) st := by kernel_rfl
@[simp] theorem isit_Amount_9 {q : Rat} : b_isinstance (sta run) [(amt q), .tup [D.ty "bool", D.ty "int", D.ty "str", D.ty "list", D.ty "tuple", D.ty "dict"]] st = .ok (.bl false) st := by kernel_rfl
@[simp] theorem isi_PaneError_Amount {gs : List (Str × D)} : b_isinstance (sta run) [.exc ("PaneError" : Str) gs, D.glo ("Amount" : Str)] st = .ok (.bl false) st := by kernel_rfl
@[simp] theorem isi_PaneError_BadNumber {gs : List (Str × D)} : b_isinstance (sta run) [.exc ("PaneError" : Str) gs, D.glo ("BadNumber" : Str)] st = .ok (.bl false) st := by kernel_rfl
@[simp] theorem isi_BadNumber_Amount {gs : List (Str × D)} : b_isinstance (sta run) [.exc ("BadNumber" : Str) gs, D.glo ("Amount" : Str)] st = .ok (.bl false) st := by kernel_rfl
@[simp] theorem isi_BadNumber_BadNumber {gs : List (Str × D)} : b_isinstance (sta run) [.exc ("BadNumber" : Str) gs, D.glo ("BadNumber" : Str)] st = .ok (.bl true) st := by kernel_rfl
@[simp] theorem isi_BadText_Amount {gs : List (Str × D)} : b_isinstance (sta run) [.exc ("BadText" : Str) gs, D.glo ("Amount" : Str)] st = .ok (.bl false) st := by kernel_rfl
@[simp] theorem isi_BadText_BadNumber {gs : List (Str × D)} : b_isinstance (sta run) [.exc ("BadText" : Str) gs, D.glo ("BadNumber" : Str)] st = .ok (.bl false) st := by kernel_rfl
@[simp] theorem exm_PaneError_PaneError  : (sta run).exm ("PaneError" : Str) ("PaneError" : Str) = true := by kernel_rfl
@[simp] theorem at_BadNumber_value {v0 : D} : mAttr (sta run) ("value" : Str) (.exc ("BadNumber" : Str) [(("value" : Str), v0)]) st = .ok v0 st := by kernel_rfl
@[simp] theorem exm_BadNumber_BadNumber  : (sta run).exm ("BadNumber" : Str) ("BadNumber" : Str) = true := by kernel_rfl
@[simp] theorem exm_BadNumber_PaneError  : (sta run).exm ("BadNumber" : Str) ("PaneError" : Str) = true := by kernel_rfl
@[simp] theorem at_BadText_line {v0 v1 : D} : mAttr (sta run) ("line" : Str) (.exc ("BadText" : Str) [(("word" : Str), v1), (("line" : Str), v0)]) st = .ok v0 st := by kernel_rfl
@[simp] theorem at_BadText_word {v0 v1 : D} : mAttr (sta run) ("word" : Str) (.exc ("BadText" : Str) [(("word" : Str), v1), (("line" : Str), v0)]) st = .ok v1 st := by kernel_rfl
@[simp] theorem exm_BadText_BadText  : (sta run).exm ("BadText" : Str) ("BadText" : Str) = true := by kernel_rfl
@[simp] theorem exm_BadText_PaneError  : (sta run).exm ("BadText" : Str) ("PaneError" : Str) = true := by kernel_rfl
@[simp] theorem cl_Amount {n : Nat} {q : Rat} : (amt q).clean n = true := by rfl
@[simp] theorem isN_Amount {q : Rat} : (amt q).isN = false := by rfl
@[simp] theorem at_Amount_top {q : Rat} : mAttr (sta run) ("top" : Str) ((amt q)) st = .ok (.int q.num) st := by kernel_rfl
@[simp] theorem ar_Amount_top {v0 v1 : D} : mAttr (sta run) ("top" : Str) (.ins ("Amount" : Str) [(("top" : Str), v0), (("bottom" : Str), v1)]) st = .ok v0 st := by kernel_rfl
@[simp] theorem kd_Amount_top  : (sta run).kind ("Amount" : Str) ("top" : Str) = .abs := by kernel_rfl
@[simp] theorem put_Amount_top {v0 : D} : putD ("top" : Str) v0 [] = [(("top" : Str), v0)] := by kernel_rfl
@[simp] theorem at_Amount_bottom {q : Rat} : mAttr (sta run) ("bottom" : Str) ((amt q)) st = .ok (.int q.den) st := by kernel_rfl
@[simp] theorem ar_Amount_bottom {v0 v1 : D} : mAttr (sta run) ("bottom" : Str) (.ins ("Amount" : Str) [(("top" : Str), v0), (("bottom" : Str), v1)]) st = .ok v1 st := by kernel_rfl
@[simp] theorem kd_Amount_bottom  : (sta run).kind ("Amount" : Str) ("bottom" : Str) = .abs := by kernel_rfl
@[simp] theorem put_Amount_bottom {v0 v1 : D} : putD ("bottom" : Str) v1 [(("top" : Str), v0)] = [(("top" : Str), v0), (("bottom" : Str), v1)] := by kernel_rfl
@[simp] theorem lk_Amount_is_number  : look (sta run) ("is_number" : Str) (.glo ("Amount" : Str)) st = some (("Amount.is_number" : Str), []) := by kernel_rfl
@[simp] theorem lk_Amount_of  : look (sta run) ("of" : Str) (.glo ("Amount" : Str)) st = some (("Amount.of" : Str), []) := by kernel_rfl
@[simp] theorem lk_Amount_per {q : Rat} : look (sta run) ("per" : Str) ((amt q)) st = some (("Amount.per" : Str), [(amt q)]) := by kernel_rfl
theorem mk_Amount {ds : List D} : mkI (sta run) ("Amount" : Str) ds st = mkR ("Amount" : Str) st (run ("Amount.__init__" : Str) (.mref st.length :: ds) (st ++ [.ins ("Amount" : Str) []])) := by kernel_rfl
@[simp] theorem kw_81  : (sta run).kw "Amount.__init__" 1 ["bottom", "top"] = some (fun ds es => pick [0, 2, 1] (ds ++ es)) := by kernel_rfl
@[simp] theorem kw_82  : (sta run).kw "Amount.per" 1 ["number"] = some (fun ds es => pick [0, 1] (ds ++ es)) := by kernel_rfl
@[simp] theorem bAdd_Amount_non {q : Rat}  : bAdd (sta run) ((amt q)) (.non) st = run ("Amount.__add__" : Str) [(amt q), .non] st := by (unfold bAdd; rw [orM_r (by kernel_rfl)]; rw [orM_r (by kernel_rfl)]; rw [orM_r (by kernel_rfl)]; rw [orM_l (by kernel_rfl)]; kernel_rfl)
@[simp] theorem bAdd_Amount_bl {q : Rat} {b : Bool} : bAdd (sta run) ((amt q)) (.bl b) st = run ("Amount.__add__" : Str) [(amt q), .bl b] st := by (unfold bAdd; rw [orM_r (by kernel_rfl)]; rw [orM_r (by kernel_rfl)]; rw [orM_r (by kernel_rfl)]; rw [orM_l (by kernel_rfl)]; kernel_rfl)
@[simp] theorem bAdd_Amount_int {q : Rat} {i : Int} : bAdd (sta run) ((amt q)) (.int i) st = run ("Amount.__add__" : Str) [(amt q), .int i] st := by (unfold bAdd; rw [orM_r (by kernel_rfl)]; rw [orM_r (by kernel_rfl)]; rw [orM_r (by kernel_rfl)]; rw [orM_l (by kernel_rfl)]; kernel_rfl)
@[simp] theorem bAdd_Amount_str {q : Rat} {x : Str} : bAdd (sta run) ((amt q)) (.str x) st = run ("Amount.__add__" : Str) [(amt q), .str x] st := by (unfold bAdd; rw [orM_r (by kernel_rfl)]; rw [orM_r (by kernel_rfl)]; rw [orM_r (by kernel_rfl)]; rw [orM_l (by kernel_rfl)]; kernel_rfl)
@[simp] theorem bAdd_Amount_tup {q : Rat} {xs : List D} : bAdd (sta run) ((amt q)) (.tup xs) st = run ("Amount.__add__" : Str) [(amt q), .tup xs] st := by (unfold bAdd; rw [orM_r (by kernel_rfl)]; rw [orM_r (by kernel_rfl)]; rw [orM_r (by kernel_rfl)]; rw [orM_l (by kernel_rfl)]; kernel_rfl)
@[simp] theorem bAdd_Amount_lst {q : Rat} {xs : List D} : bAdd (sta run) ((amt q)) (.lst xs) st = run ("Amount.__add__" : Str) [(amt q), .lst xs] st := by (unfold bAdd; rw [orM_r (by kernel_rfl)]; rw [orM_r (by kernel_rfl)]; rw [orM_r (by kernel_rfl)]; rw [orM_l (by kernel_rfl)]; kernel_rfl)
@[simp] theorem bAdd_Amount_dic {q : Rat} {kv : List (Key × D)} : bAdd (sta run) ((amt q)) (.dic kv) st = run ("Amount.__add__" : Str) [(amt q), .dic kv] st := by (unfold bAdd; rw [orM_r (by kernel_rfl)]; rw [orM_r (by kernel_rfl)]; rw [orM_r (by kernel_rfl)]; rw [orM_l (by kernel_rfl)]; kernel_rfl)
@[simp] theorem bAdd_Amount_Amount {q : Rat} {q' : Rat} : bAdd (sta run) ((amt q)) ((amt q')) st = run ("Amount.__add__" : Str) [(amt q), (amt q')] st := by (unfold bAdd; rw [orM_r (by kernel_rfl)]; rw [orM_r (by kernel_rfl)]; rw [orM_r (by kernel_rfl)]; rw [orM_l (by kernel_rfl)]; kernel_rfl)
@[simp] theorem bAdd_int_Amount {q : Rat} {i : Int} : bAdd (sta run) (.int i) ((amt q)) st = run ("Amount.__radd__" : Str) [(amt q), .int i] st := by (unfold bAdd; rw [orM_r (by kernel_rfl)]; rw [orM_r (by kernel_rfl)]; rw [orM_r (by kernel_rfl)]; rw [orM_r (by kernel_rfl)]; kernel_rfl)
@[simp] theorem bSub_Amount_non {q : Rat}  : bSub (sta run) ((amt q)) (.non) st = run ("Amount.__sub__" : Str) [(amt q), .non] st := by (unfold bSub; rw [orM_r (by kernel_rfl)]; rw [orM_l (by kernel_rfl)]; kernel_rfl)
@[simp] theorem bSub_Amount_bl {q : Rat} {b : Bool} : bSub (sta run) ((amt q)) (.bl b) st = run ("Amount.__sub__" : Str) [(amt q), .bl b] st := by (unfold bSub; rw [orM_r (by kernel_rfl)]; rw [orM_l (by kernel_rfl)]; kernel_rfl)
@[simp] theorem bSub_Amount_int {q : Rat} {i : Int} : bSub (sta run) ((amt q)) (.int i) st = run ("Amount.__sub__" : Str) [(amt q), .int i] st := by (unfold bSub; rw [orM_r (by kernel_rfl)]; rw [orM_l (by kernel_rfl)]; kernel_rfl)
@[simp] theorem bSub_Amount_str {q : Rat} {x : Str} : bSub (sta run) ((amt q)) (.str x) st = run ("Amount.__sub__" : Str) [(amt q), .str x] st := by (unfold bSub; rw [orM_r (by kernel_rfl)]; rw [orM_l (by kernel_rfl)]; kernel_rfl)
@[simp] theorem bSub_Amount_tup {q : Rat} {xs : List D} : bSub (sta run) ((amt q)) (.tup xs) st = run ("Amount.__sub__" : Str) [(amt q), .tup xs] st := by (unfold bSub; rw [orM_r (by kernel_rfl)]; rw [orM_l (by kernel_rfl)]; kernel_rfl)
@[simp] theorem bSub_Amount_lst {q : Rat} {xs : List D} : bSub (sta run) ((amt q)) (.lst xs) st = run ("Amount.__sub__" : Str) [(amt q), .lst xs] st := by (unfold bSub; rw [orM_r (by kernel_rfl)]; rw [orM_l (by kernel_rfl)]; kernel_rfl)
@[simp] theorem bSub_Amount_dic {q : Rat} {kv : List (Key × D)} : bSub (sta run) ((amt q)) (.dic kv) st = run ("Amount.__sub__" : Str) [(amt q), .dic kv] st := by (unfold bSub; rw [orM_r (by kernel_rfl)]; rw [orM_l (by kernel_rfl)]; kernel_rfl)
@[simp] theorem bSub_Amount_Amount {q : Rat} {q' : Rat} : bSub (sta run) ((amt q)) ((amt q')) st = run ("Amount.__sub__" : Str) [(amt q), (amt q')] st := by (unfold bSub; rw [orM_r (by kernel_rfl)]; rw [orM_l (by kernel_rfl)]; kernel_rfl)
@[simp] theorem bSub_int_Amount {q : Rat} {i : Int} : bSub (sta run) (.int i) ((amt q)) st = run ("Amount.__rsub__" : Str) [(amt q), .int i] st := by (unfold bSub; rw [orM_r (by kernel_rfl)]; rw [orM_r (by kernel_rfl)]; kernel_rfl)
@[simp] theorem bMul_Amount_non {q : Rat}  : bMul (sta run) ((amt q)) (.non) st = run ("Amount.__mul__" : Str) [(amt q), .non] st := by (unfold bMul; rw [orM_r (by kernel_rfl)]; rw [orM_r (by kernel_rfl)]; rw [orM_l (by kernel_rfl)]; kernel_rfl)
@[simp] theorem bMul_Amount_bl {q : Rat} {b : Bool} : bMul (sta run) ((amt q)) (.bl b) st = run ("Amount.__mul__" : Str) [(amt q), .bl b] st := by (unfold bMul; rw [orM_r (by kernel_rfl)]; rw [orM_r (by kernel_rfl)]; rw [orM_l (by kernel_rfl)]; kernel_rfl)
@[simp] theorem bMul_Amount_int {q : Rat} {i : Int} : bMul (sta run) ((amt q)) (.int i) st = run ("Amount.__mul__" : Str) [(amt q), .int i] st := by (unfold bMul; rw [orM_r (by kernel_rfl)]; rw [orM_r (by kernel_rfl)]; rw [orM_l (by kernel_rfl)]; kernel_rfl)
@[simp] theorem bMul_Amount_str {q : Rat} {x : Str} : bMul (sta run) ((amt q)) (.str x) st = run ("Amount.__mul__" : Str) [(amt q), .str x] st := by (unfold bMul; rw [orM_r (by kernel_rfl)]; rw [orM_r (by kernel_rfl)]; rw [orM_l (by kernel_rfl)]; kernel_rfl)
@[simp] theorem bMul_Amount_tup {q : Rat} {xs : List D} : bMul (sta run) ((amt q)) (.tup xs) st = run ("Amount.__mul__" : Str) [(amt q), .tup xs] st := by (unfold bMul; rw [orM_r (by kernel_rfl)]; rw [orM_r (by kernel_rfl)]; rw [orM_l (by kernel_rfl)]; kernel_rfl)
@[simp] theorem bMul_Amount_lst {q : Rat} {xs : List D} : bMul (sta run) ((amt q)) (.lst xs) st = run ("Amount.__mul__" : Str) [(amt q), .lst xs] st := by (unfold bMul; rw [orM_r (by kernel_rfl)]; rw [orM_r (by kernel_rfl)]; rw [orM_l (by kernel_rfl)]; kernel_rfl)
@[simp] theorem bMul_Amount_dic {q : Rat} {kv : List (Key × D)} : bMul (sta run) ((amt q)) (.dic kv) st = run ("Amount.__mul__" : Str) [(amt q), .dic kv] st := by (unfold bMul; rw [orM_r (by kernel_rfl)]; rw [orM_r (by kernel_rfl)]; rw [orM_l (by kernel_rfl)]; kernel_rfl)
@[simp] theorem bMul_Amount_Amount {q : Rat} {q' : Rat} : bMul (sta run) ((amt q)) ((amt q')) st = run ("Amount.__mul__" : Str) [(amt q), (amt q')] st := by (unfold bMul; rw [orM_r (by kernel_rfl)]; rw [orM_r (by kernel_rfl)]; rw [orM_l (by kernel_rfl)]; kernel_rfl)
@[simp] theorem bMul_int_Amount {q : Rat} {i : Int} : bMul (sta run) (.int i) ((amt q)) st = run ("Amount.__rmul__" : Str) [(amt q), .int i] st := by (unfold bMul; rw [orM_r (by kernel_rfl)]; rw [orM_r (by kernel_rfl)]; rw [orM_r (by kernel_rfl)]; kernel_rfl)
@[simp] theorem bDiv_Amount_non {q : Rat}  : bDiv (sta run) ((amt q)) (.non) st = run ("Amount.__floordiv__" : Str) [(amt q), .non] st := by (unfold bDiv; rw [orM_r (by kernel_rfl)]; rw [orM_l (by kernel_rfl)]; kernel_rfl)
@[simp] theorem bDiv_Amount_bl {q : Rat} {b : Bool} : bDiv (sta run) ((amt q)) (.bl b) st = run ("Amount.__floordiv__" : Str) [(amt q), .bl b] st := by (unfold bDiv; rw [orM_r (by kernel_rfl)]; rw [orM_l (by kernel_rfl)]; kernel_rfl)
@[simp] theorem bDiv_Amount_int {q : Rat} {i : Int} : bDiv (sta run) ((amt q)) (.int i) st = run ("Amount.__floordiv__" : Str) [(amt q), .int i] st := by (unfold bDiv; rw [orM_r (by kernel_rfl)]; rw [orM_l (by kernel_rfl)]; kernel_rfl)
@[simp] theorem bDiv_Amount_str {q : Rat} {x : Str} : bDiv (sta run) ((amt q)) (.str x) st = run ("Amount.__floordiv__" : Str) [(amt q), .str x] st := by (unfold bDiv; rw [orM_r (by kernel_rfl)]; rw [orM_l (by kernel_rfl)]; kernel_rfl)
@[simp] theorem bDiv_Amount_tup {q : Rat} {xs : List D} : bDiv (sta run) ((amt q)) (.tup xs) st = run ("Amount.__floordiv__" : Str) [(amt q), .tup xs] st := by (unfold bDiv; rw [orM_r (by kernel_rfl)]; rw [orM_l (by kernel_rfl)]; kernel_rfl)
@[simp] theorem bDiv_Amount_lst {q : Rat} {xs : List D} : bDiv (sta run) ((amt q)) (.lst xs) st = run ("Amount.__floordiv__" : Str) [(amt q), .lst xs] st := by (unfold bDiv; rw [orM_r (by kernel_rfl)]; rw [orM_l (by kernel_rfl)]; kernel_rfl)
@[simp] theorem bDiv_Amount_dic {q : Rat} {kv : List (Key × D)} : bDiv (sta run) ((amt q)) (.dic kv) st = run ("Amount.__floordiv__" : Str) [(amt q), .dic kv] st := by (unfold bDiv; rw [orM_r (by kernel_rfl)]; rw [orM_l (by kernel_rfl)]; kernel_rfl)
@[simp] theorem bDiv_Amount_Amount {q : Rat} {q' : Rat} : bDiv (sta run) ((amt q)) ((amt q')) st = run ("Amount.__floordiv__" : Str) [(amt q), (amt q')] st := by (unfold bDiv; rw [orM_r (by kernel_rfl)]; rw [orM_l (by kernel_rfl)]; kernel_rfl)
@[simp] theorem bDiv_int_Amount {q : Rat} {i : Int} : bDiv (sta run) (.int i) ((amt q)) st = run ("Amount.__rfloordiv__" : Str) [(amt q), .int i] st := by (unfold bDiv; rw [orM_r (by kernel_rfl)]; rw [orM_r (by kernel_rfl)]; kernel_rfl)
@[simp] theorem bMod_Amount_non {q : Rat}  : bMod (sta run) ((amt q)) (.non) st = run ("Amount.__mod__" : Str) [(amt q), .non] st := by (unfold bMod; rw [orM_r (by kernel_rfl)]; rw [orM_l (by kernel_rfl)]; kernel_rfl)
@[simp] theorem bMod_Amount_bl {q : Rat} {b : Bool} : bMod (sta run) ((amt q)) (.bl b) st = run ("Amount.__mod__" : Str) [(amt q), .bl b] st := by (unfold bMod; rw [orM_r (by kernel_rfl)]; rw [orM_l (by kernel_rfl)]; kernel_rfl)
@[simp] theorem bMod_Amount_int {q : Rat} {i : Int} : bMod (sta run) ((amt q)) (.int i) st = run ("Amount.__mod__" : Str) [(amt q), .int i] st := by (unfold bMod; rw [orM_r (by kernel_rfl)]; rw [orM_l (by kernel_rfl)]; kernel_rfl)
@[simp] theorem bMod_Amount_str {q : Rat} {x : Str} : bMod (sta run) ((amt q)) (.str x) st = run ("Amount.__mod__" : Str) [(amt q), .str x] st := by (unfold bMod; rw [orM_r (by kernel_rfl)]; rw [orM_l (by kernel_rfl)]; kernel_rfl)
@[simp] theorem bMod_Amount_tup {q : Rat} {xs : List D} : bMod (sta run) ((amt q)) (.tup xs) st = run ("Amount.__mod__" : Str) [(amt q), .tup xs] st := by (unfold bMod; rw [orM_r (by kernel_rfl)]; rw [orM_l (by kernel_rfl)]; kernel_rfl)
@[simp] theorem bMod_Amount_lst {q : Rat} {xs : List D} : bMod (sta run) ((amt q)) (.lst xs) st = run ("Amount.__mod__" : Str) [(amt q), .lst xs] st := by (unfold bMod; rw [orM_r (by kernel_rfl)]; rw [orM_l (by kernel_rfl)]; kernel_rfl)
@[simp] theorem bMod_Amount_dic {q : Rat} {kv : List (Key × D)} : bMod (sta run) ((amt q)) (.dic kv) st = run ("Amount.__mod__" : Str) [(amt q), .dic kv] st := by (unfold bMod; rw [orM_r (by kernel_rfl)]; rw [orM_l (by kernel_rfl)]; kernel_rfl)
@[simp] theorem bMod_Amount_Amount {q : Rat} {q' : Rat} : bMod (sta run) ((amt q)) ((amt q')) st = run ("Amount.__mod__" : Str) [(amt q), (amt q')] st := by (unfold bMod; rw [orM_r (by kernel_rfl)]; rw [orM_l (by kernel_rfl)]; kernel_rfl)
@[simp] theorem bMod_int_Amount {q : Rat} {i : Int} : bMod (sta run) (.int i) ((amt q)) st = run ("Amount.__rmod__" : Str) [(amt q), .int i] st := by (unfold bMod; rw [orM_r (by kernel_rfl)]; rw [orM_r (by kernel_rfl)]; kernel_rfl)
@[simp] theorem cLt_Amount_non {q : Rat}  : cLt (sta run) ((amt q)) (.non) st = run ("Amount.__lt__" : Str) [(amt q), .non] st := by (unfold cLt; rw [orM_r (by kernel_rfl), orM_l (by kernel_rfl)]; kernel_rfl)
@[simp] theorem cLt_Amount_bl {q : Rat} {b : Bool} : cLt (sta run) ((amt q)) (.bl b) st = run ("Amount.__lt__" : Str) [(amt q), .bl b] st := by (unfold cLt; rw [orM_r (by kernel_rfl), orM_l (by kernel_rfl)]; kernel_rfl)
@[simp] theorem cLt_Amount_int {q : Rat} {i : Int} : cLt (sta run) ((amt q)) (.int i) st = run ("Amount.__lt__" : Str) [(amt q), .int i] st := by (unfold cLt; rw [orM_r (by kernel_rfl), orM_l (by kernel_rfl)]; kernel_rfl)
@[simp] theorem cLt_Amount_str {q : Rat} {x : Str} : cLt (sta run) ((amt q)) (.str x) st = run ("Amount.__lt__" : Str) [(amt q), .str x] st := by (unfold cLt; rw [orM_r (by kernel_rfl), orM_l (by kernel_rfl)]; kernel_rfl)
@[simp] theorem cLt_Amount_tup {q : Rat} {xs : List D} : cLt (sta run) ((amt q)) (.tup xs) st = run ("Amount.__lt__" : Str) [(amt q), .tup xs] st := by (unfold cLt; rw [orM_r (by kernel_rfl), orM_l (by kernel_rfl)]; kernel_rfl)
@[simp] theorem cLt_Amount_lst {q : Rat} {xs : List D} : cLt (sta run) ((amt q)) (.lst xs) st = run ("Amount.__lt__" : Str) [(amt q), .lst xs] st := by (unfold cLt; rw [orM_r (by kernel_rfl), orM_l (by kernel_rfl)]; kernel_rfl)
@[simp] theorem cLt_Amount_dic {q : Rat} {kv : List (Key × D)} : cLt (sta run) ((amt q)) (.dic kv) st = run ("Amount.__lt__" : Str) [(amt q), .dic kv] st := by (unfold cLt; rw [orM_r (by kernel_rfl), orM_l (by kernel_rfl)]; kernel_rfl)
@[simp] theorem cLt_Amount_Amount {q : Rat} {q' : Rat} : cLt (sta run) ((amt q)) ((amt q')) st = run ("Amount.__lt__" : Str) [(amt q), (amt q')] st := by (unfold cLt; rw [orM_r (by kernel_rfl), orM_l (by kernel_rfl)]; kernel_rfl)
@[simp] theorem cLt_int_Amount {q : Rat} {i : Int} : cLt (sta run) (.int i) ((amt q)) st = run ("Amount.__gt__" : Str) [(amt q), .int i] st := by (unfold cLt; rw [orM_r (by kernel_rfl), orM_r (by kernel_rfl)]; kernel_rfl)
@[simp] theorem cLe_Amount_non {q : Rat}  : cLe (sta run) ((amt q)) (.non) st = run ("Amount.__le__" : Str) [(amt q), .non] st := by (unfold cLe; rw [orM_r (by kernel_rfl), orM_l (by kernel_rfl)]; kernel_rfl)
@[simp] theorem cLe_Amount_bl {q : Rat} {b : Bool} : cLe (sta run) ((amt q)) (.bl b) st = run ("Amount.__le__" : Str) [(amt q), .bl b] st := by (unfold cLe; rw [orM_r (by kernel_rfl), orM_l (by kernel_rfl)]; kernel_rfl)
@[simp] theorem cLe_Amount_int {q : Rat} {i : Int} : cLe (sta run) ((amt q)) (.int i) st = run ("Amount.__le__" : Str) [(amt q), .int i] st := by (unfold cLe; rw [orM_r (by kernel_rfl), orM_l (by kernel_rfl)]; kernel_rfl)
@[simp] theorem cLe_Amount_str {q : Rat} {x : Str} : cLe (sta run) ((amt q)) (.str x) st = run ("Amount.__le__" : Str) [(amt q), .str x] st := by (unfold cLe; rw [orM_r (by kernel_rfl), orM_l (by kernel_rfl)]; kernel_rfl)
@[simp] theorem cLe_Amount_tup {q : Rat} {xs : List D} : cLe (sta run) ((amt q)) (.tup xs) st = run ("Amount.__le__" : Str) [(amt q), .tup xs] st := by (unfold cLe; rw [orM_r (by kernel_rfl), orM_l (by kernel_rfl)]; kernel_rfl)
@[simp] theorem cLe_Amount_lst {q : Rat} {xs : List D} : cLe (sta run) ((amt q)) (.lst xs) st = run ("Amount.__le__" : Str) [(amt q), .lst xs] st := by (unfold cLe; rw [orM_r (by kernel_rfl), orM_l (by kernel_rfl)]; kernel_rfl)
@[simp] theorem cLe_Amount_dic {q : Rat} {kv : List (Key × D)} : cLe (sta run) ((amt q)) (.dic kv) st = run ("Amount.__le__" : Str) [(amt q), .dic kv] st := by (unfold cLe; rw [orM_r (by kernel_rfl), orM_l (by kernel_rfl)]; kernel_rfl)
@[simp] theorem cLe_Amount_Amount {q : Rat} {q' : Rat} : cLe (sta run) ((amt q)) ((amt q')) st = run ("Amount.__le__" : Str) [(amt q), (amt q')] st := by (unfold cLe; rw [orM_r (by kernel_rfl), orM_l (by kernel_rfl)]; kernel_rfl)
@[simp] theorem cLe_int_Amount {q : Rat} {i : Int} : cLe (sta run) (.int i) ((amt q)) st = run ("Amount.__ge__" : Str) [(amt q), .int i] st := by (unfold cLe; rw [orM_r (by kernel_rfl), orM_r (by kernel_rfl)]; kernel_rfl)
@[simp] theorem cGt_Amount_non {q : Rat}  : cGt (sta run) ((amt q)) (.non) st = run ("Amount.__gt__" : Str) [(amt q), .non] st := by (unfold cGt; rw [orM_r (by kernel_rfl), orM_l (by kernel_rfl)]; kernel_rfl)
@[simp] theorem cGt_Amount_bl {q : Rat} {b : Bool} : cGt (sta run) ((amt q)) (.bl b) st = run ("Amount.__gt__" : Str) [(amt q), .bl b] st := by (unfold cGt; rw [orM_r (by kernel_rfl), orM_l (by kernel_rfl)]; kernel_rfl)
@[simp] theorem cGt_Amount_int {q : Rat} {i : Int} : cGt (sta run) ((amt q)) (.int i) st = run ("Amount.__gt__" : Str) [(amt q), .int i] st := by (unfold cGt; rw [orM_r (by kernel_rfl), orM_l (by kernel_rfl)]; kernel_rfl)
@[simp] theorem cGt_Amount_str {q : Rat} {x : Str} : cGt (sta run) ((amt q)) (.str x) st = run ("Amount.__gt__" : Str) [(amt q), .str x] st := by (unfold cGt; rw [orM_r (by kernel_rfl), orM_l (by kernel_rfl)]; kernel_rfl)
@[simp] theorem cGt_Amount_tup {q : Rat} {xs : List D} : cGt (sta run) ((amt q)) (.tup xs) st = run ("Amount.__gt__" : Str) [(amt q), .tup xs] st := by (unfold cGt; rw [orM_r (by kernel_rfl), orM_l (by kernel_rfl)]; kernel_rfl)
@[simp] theorem cGt_Amount_lst {q : Rat} {xs : List D} : cGt (sta run) ((amt q)) (.lst xs) st = run ("Amount.__gt__" : Str) [(amt q), .lst xs] st := by (unfold cGt; rw [orM_r (by kernel_rfl), orM_l (by kernel_rfl)]; kernel_rfl)
@[simp] theorem cGt_Amount_dic {q : Rat} {kv : List (Key × D)} : cGt (sta run) ((amt q)) (.dic kv) st = run ("Amount.__gt__" : Str) [(amt q), .dic kv] st := by (unfold cGt; rw [orM_r (by kernel_rfl), orM_l (by kernel_rfl)]; kernel_rfl)
@[simp] theorem cGt_Amount_Amount {q : Rat} {q' : Rat} : cGt (sta run) ((amt q)) ((amt q')) st = run ("Amount.__gt__" : Str) [(amt q), (amt q')] st := by (unfold cGt; rw [orM_r (by kernel_rfl), orM_l (by kernel_rfl)]; kernel_rfl)
@[simp] theorem cGt_int_Amount {q : Rat} {i : Int} : cGt (sta run) (.int i) ((amt q)) st = run ("Amount.__lt__" : Str) [(amt q), .int i] st := by (unfold cGt; rw [orM_r (by kernel_rfl), orM_r (by kernel_rfl)]; kernel_rfl)
@[simp] theorem cGe_Amount_non {q : Rat}  : cGe (sta run) ((amt q)) (.non) st = run ("Amount.__ge__" : Str) [(amt q), .non] st := by (unfold cGe; rw [orM_r (by kernel_rfl), orM_l (by kernel_rfl)]; kernel_rfl)
@[simp] theorem cGe_Amount_bl {q : Rat} {b : Bool} : cGe (sta run) ((amt q)) (.bl b) st = run ("Amount.__ge__" : Str) [(amt q), .bl b] st := by (unfold cGe; rw [orM_r (by kernel_rfl), orM_l (by kernel_rfl)]; kernel_rfl)
@[simp] theorem cGe_Amount_int {q : Rat} {i : Int} : cGe (sta run) ((amt q)) (.int i) st = run ("Amount.__ge__" : Str) [(amt q), .int i] st := by (unfold cGe; rw [orM_r (by kernel_rfl), orM_l (by kernel_rfl)]; kernel_rfl)
@[simp] theorem cGe_Amount_str {q : Rat} {x : Str} : cGe (sta run) ((amt q)) (.str x) st = run ("Amount.__ge__" : Str) [(amt q), .str x] st := by (unfold cGe; rw [orM_r (by kernel_rfl), orM_l (by kernel_rfl)]; kernel_rfl)
@[simp] theorem cGe_Amount_tup {q : Rat} {xs : List D} : cGe (sta run) ((amt q)) (.tup xs) st = run ("Amount.__ge__" : Str) [(amt q), .tup xs] st := by (unfold cGe; rw [orM_r (by kernel_rfl), orM_l (by kernel_rfl)]; kernel_rfl)
@[simp] theorem cGe_Amount_lst {q : Rat} {xs : List D} : cGe (sta run) ((amt q)) (.lst xs) st = run ("Amount.__ge__" : Str) [(amt q), .lst xs] st := by (unfold cGe; rw [orM_r (by kernel_rfl), orM_l (by kernel_rfl)]; kernel_rfl)
@[simp] theorem cGe_Amount_dic {q : Rat} {kv : List (Key × D)} : cGe (sta run) ((amt q)) (.dic kv) st = run ("Amount.__ge__" : Str) [(amt q), .dic kv] st := by (unfold cGe; rw [orM_r (by kernel_rfl), orM_l (by kernel_rfl)]; kernel_rfl)
@[simp] theorem cGe_Amount_Amount {q : Rat} {q' : Rat} : cGe (sta run) ((amt q)) ((amt q')) st = run ("Amount.__ge__" : Str) [(amt q), (amt q')] st := by (unfold cGe; rw [orM_r (by kernel_rfl), orM_l (by kernel_rfl)]; kernel_rfl)
@[simp] theorem cGe_int_Amount {q : Rat} {i : Int} : cGe (sta run) (.int i) ((amt q)) st = run ("Amount.__le__" : Str) [(amt q), .int i] st := by (unfold cGe; rw [orM_r (by kernel_rfl), orM_r (by kernel_rfl)]; kernel_rfl)
@[simp] theorem cEq_Amount_non {q : Rat}  : cEq (sta run) ((amt q)) (.non) st = run ("Amount.__eq__" : Str) [(amt q), .non] st := by (unfold cEq; rw [orM_r (by kernel_rfl), orM_l (by kernel_rfl)]; kernel_rfl)
@[simp] theorem cEq_Amount_bl {q : Rat} {b : Bool} : cEq (sta run) ((amt q)) (.bl b) st = run ("Amount.__eq__" : Str) [(amt q), .bl b] st := by (unfold cEq; rw [orM_r (by kernel_rfl), orM_l (by kernel_rfl)]; kernel_rfl)
@[simp] theorem cEq_Amount_int {q : Rat} {i : Int} : cEq (sta run) ((amt q)) (.int i) st = run ("Amount.__eq__" : Str) [(amt q), .int i] st := by (unfold cEq; rw [orM_r (by kernel_rfl), orM_l (by kernel_rfl)]; kernel_rfl)
@[simp] theorem cEq_Amount_str {q : Rat} {x : Str} : cEq (sta run) ((amt q)) (.str x) st = run ("Amount.__eq__" : Str) [(amt q), .str x] st := by (unfold cEq; rw [orM_r (by kernel_rfl), orM_l (by kernel_rfl)]; kernel_rfl)
@[simp] theorem cEq_Amount_tup {q : Rat} {xs : List D} : cEq (sta run) ((amt q)) (.tup xs) st = run ("Amount.__eq__" : Str) [(amt q), .tup xs] st := by (unfold cEq; rw [orM_r (by kernel_rfl), orM_l (by kernel_rfl)]; kernel_rfl)
@[simp] theorem cEq_Amount_lst {q : Rat} {xs : List D} : cEq (sta run) ((amt q)) (.lst xs) st = run ("Amount.__eq__" : Str) [(amt q), .lst xs] st := by (unfold cEq; rw [orM_r (by kernel_rfl), orM_l (by kernel_rfl)]; kernel_rfl)
@[simp] theorem cEq_Amount_dic {q : Rat} {kv : List (Key × D)} : cEq (sta run) ((amt q)) (.dic kv) st = run ("Amount.__eq__" : Str) [(amt q), .dic kv] st := by (unfold cEq; rw [orM_r (by kernel_rfl), orM_l (by kernel_rfl)]; kernel_rfl)
@[simp] theorem cEq_Amount_Amount {q : Rat} {q' : Rat} : cEq (sta run) ((amt q)) ((amt q')) st = run ("Amount.__eq__" : Str) [(amt q), (amt q')] st := by (unfold cEq; rw [orM_r (by kernel_rfl), orM_l (by kernel_rfl)]; kernel_rfl)
@[simp] theorem cEq_int_Amount {q : Rat} {i : Int} : cEq (sta run) (.int i) ((amt q)) st = run ("Amount.__eq__" : Str) [(amt q), .int i] st := by (unfold cEq; rw [orM_r (by kernel_rfl), orM_r (by kernel_rfl), orM_l (by kernel_rfl)]; kernel_rfl)
@[simp] theorem cNe_Amount_non {q : Rat}  : cNe (sta run) ((amt q)) (.non) st = (run ("Amount.__eq__" : Str) [(amt q), .non] st).bind negR := by (unfold cNe; rw [orM_r (by kernel_rfl), orM_l (by kernel_rfl)]; kernel_rfl)
@[simp] theorem cNe_Amount_bl {q : Rat} {b : Bool} : cNe (sta run) ((amt q)) (.bl b) st = (run ("Amount.__eq__" : Str) [(amt q), .bl b] st).bind negR := by (unfold cNe; rw [orM_r (by kernel_rfl), orM_l (by kernel_rfl)]; kernel_rfl)
@[simp] theorem cNe_Amount_int {q : Rat} {i : Int} : cNe (sta run) ((amt q)) (.int i) st = (run ("Amount.__eq__" : Str) [(amt q), .int i] st).bind negR := by (unfold cNe; rw [orM_r (by kernel_rfl), orM_l (by kernel_rfl)]; kernel_rfl)
@[simp] theorem cNe_Amount_str {q : Rat} {x : Str} : cNe (sta run) ((amt q)) (.str x) st = (run ("Amount.__eq__" : Str) [(amt q), .str x] st).bind negR := by (unfold cNe; rw [orM_r (by kernel_rfl), orM_l (by kernel_rfl)]; kernel_rfl)
@[simp] theorem cNe_Amount_tup {q : Rat} {xs : List D} : cNe (sta run) ((amt q)) (.tup xs) st = (run ("Amount.__eq__" : Str) [(amt q), .tup xs] st).bind negR := by (unfold cNe; rw [orM_r (by kernel_rfl), orM_l (by kernel_rfl)]; kernel_rfl)
@[simp] theorem cNe_Amount_lst {q : Rat} {xs : List D} : cNe (sta run) ((amt q)) (.lst xs) st = (run ("Amount.__eq__" : Str) [(amt q), .lst xs] st).bind negR := by (unfold cNe; rw [orM_r (by kernel_rfl), orM_l (by kernel_rfl)]; kernel_rfl)
@[simp] theorem cNe_Amount_dic {q : Rat} {kv : List (Key × D)} : cNe (sta run) ((amt q)) (.dic kv) st = (run ("Amount.__eq__" : Str) [(amt q), .dic kv] st).bind negR := by (unfold cNe; rw [orM_r (by kernel_rfl), orM_l (by kernel_rfl)]; kernel_rfl)
@[simp] theorem cNe_Amount_Amount {q : Rat} {q' : Rat} : cNe (sta run) ((amt q)) ((amt q')) st = (run ("Amount.__eq__" : Str) [(amt q), (amt q')] st).bind negR := by (unfold cNe; rw [orM_r (by kernel_rfl), orM_l (by kernel_rfl)]; kernel_rfl)
@[simp] theorem cNe_int_Amount {q : Rat} {i : Int} : cNe (sta run) (.int i) ((amt q)) st = (run ("Amount.__eq__" : Str) [(amt q), .int i] st).bind negR := by (unfold cNe; rw [orM_r (by kernel_rfl), orM_r (by kernel_rfl), orM_l (by kernel_rfl)]; kernel_rfl)
@[simp] theorem uNeg_Amount {q : Rat} : uNeg (sta run) ((amt q)) st = run ("Amount.__neg__" : Str) [(amt q)] st := by (unfold uNeg; rw [orU_r (by kernel_rfl)]; kernel_rfl)
@[simp] theorem b_abs_Amount {q : Rat} : b_abs (sta run) [(amt q)] st = run ("Amount.__abs__" : Str) [(amt q)] st := by (unfold b_abs; rw [orU_r (by kernel_rfl)]; kernel_rfl)
@[simp] theorem mFmt_Amount {q : Rat} : mFmt (sta run) ((amt q)) st = (run ("Amount.__str__" : Str) [(amt q)] st).bind isStr := by kernel_rfl
@[simp] theorem b_str_Amount {q : Rat} : b_str (sta run) [(amt q)] st = (run ("Amount.__str__" : Str) [(amt q)] st).bind isStr := by (unfold b_str; rw [orU_r (by kernel_rfl)]; kernel_rfl)
@[simp] theorem b_bool_Amount {q : Rat} : b_bool (sta run) [(amt q)] st = (run ("Amount.__bool__" : Str) [(amt q)] st).bind isBD := by (unfold b_bool; rw [orU_r (by kernel_rfl)]; kernel_rfl)
@[simp] theorem truM_Amount {q : Rat} : truM (sta run) ((amt q)) st = (run ("Amount.__bool__" : Str) [(amt q)] st).bind isB := by kernel_rfl
end
end MP
set_option Elab.async false
set_option linter.all false
namespace SP
theorem rat_norm {t : Int} {b : Nat} (hb : b ≠ 0) : (mkRat t b).num = t / (Nat.gcd t.natAbs b : Int) ∧ ((mkRat t b).den : Int) = (b : Int) / (Nat.gcd t.natAbs b : Int) := by
  rw [mkRat, dif_neg hb, Rat.normalize_eq]
  exact ⟨rfl, by simp [Int.natCast_ediv]⟩
/-- what Amount.__init__ keeps of a top and a bottom -/
theorem amount_init {t b : Int} (hb : b ≠ 0) : let g : Int := (Nat.gcd t.natAbs b.natAbs : Int)
    t.fdiv (if b < 0 then -g else g) = (Rat.divInt t b).num ∧ b.fdiv (if b < 0 then -g else g) = ((Rat.divInt t b).den : Int) := by
  intro g
  have hg : 0 < g := by
    have : 0 < Nat.gcd t.natAbs b.natAbs := Nat.gcd_pos_of_pos_right _ (by omega)
    omega
  have h1 : g ∣ t := Int.ofNat_dvd_left.mpr (Nat.gcd_dvd_left _ _)
  have h2 : g ∣ b := Int.ofNat_dvd_left.mpr (Nat.gcd_dvd_right _ _)
  obtain ⟨x, hx⟩ := h1
  obtain ⟨y, hy⟩ := h2
  have hgn : g ≠ 0 := by omega
  rcases (show b < 0 ∨ 0 ≤ b by omega) with hlt | hge
  · rw [if_pos hlt]
    have e : Rat.divInt t b = mkRat (-t) b.natAbs := by
      rw [← Rat.neg_divInt_neg]
      rw [show (-b) = (b.natAbs : Int) by omega]
      exact Rat.divInt_ofNat _ _
    obtain ⟨n1, n2⟩ := rat_norm (t := -t) (b := b.natAbs) (by omega)
    rw [e, n1, n2]
    have hgg : ((Nat.gcd (-t).natAbs b.natAbs : Nat) : Int) = g := by simp [g]
    rw [hgg]
    refine ⟨?_, ?_⟩
    · rw [hx]
      rw [show -(g * x) = g * (-x) by grind, Int.mul_ediv_cancel_left _ hgn]
      rw [show g * x = (-g) * (-x) by grind]
      exact Int.mul_fdiv_cancel_left _ (by omega)
    · rw [show (b.natAbs : Int) = g * (-y) by grind, Int.mul_ediv_cancel_left _ hgn]
      rw [show b.fdiv (-g) = ((-g) * (-y)).fdiv (-g) by grind]
      exact Int.mul_fdiv_cancel_left _ (by omega)
  · rw [if_neg (by omega)]
    have e : Rat.divInt t b = mkRat t b.natAbs := by
      rw [show Rat.divInt t b = Rat.divInt t (b.natAbs : Int) by rw [show (b.natAbs : Int) = b by omega]]
      exact Rat.divInt_ofNat _ _
    obtain ⟨n1, n2⟩ := rat_norm (t := t) (b := b.natAbs) (by omega)
    rw [e, n1, n2]
    refine ⟨?_, ?_⟩
    · show t.fdiv g = t / g
      exact Int.fdiv_eq_ediv_of_nonneg _ (by omega)
    · show b.fdiv g = (b.natAbs : Int) / g
      rw [show (b.natAbs : Int) = b by omega]
      exact Int.fdiv_eq_ediv_of_nonneg _ (by omega)
end SP
set_option Elab.async false
set_option linter.all false
/-! plain mathematics of fractions and their sizes -/
namespace MP
open SP (amount_init rat_norm)
/-- top and bottom below 2 ^ n -/
def Sz (n : Nat) (q : Rat) : Prop := q.num.natAbs < 2 ^ n ∧ q.den < 2 ^ n
theorem Sz.le {n m : Nat} {q : Rat} (h : Sz n q) (k : n ≤ m) : Sz m q := ⟨Nat.lt_of_lt_of_le h.1 (Nat.pow_le_pow_right (by decide) k), Nat.lt_of_lt_of_le h.2 (Nat.pow_le_pow_right (by decide) k)⟩
theorem mkRat_eq {a : Int} {b : Nat} (hb : b ≠ 0) : Rat.divInt a b = mkRat a b := Rat.divInt_ofNat _ _
theorem norm_eq {a : Int} {b : Nat} (hb : b ≠ 0) : Rat.divInt a b = Rat.normalize a b hb := by rw [mkRat_eq hb]; unfold mkRat; rw [dif_neg hb]
theorem add_q (p q : Rat) : Rat.divInt (p.num * q.den + q.num * p.den) (p.den * q.den) = p + q := by
  rw [Rat.add_def]
  exact norm_eq (a := p.num * q.den + q.num * p.den) (Nat.mul_ne_zero p.den_nz q.den_nz)
theorem sub_q (p q : Rat) : Rat.divInt (p.num * q.den - q.num * p.den) (p.den * q.den) = p - q := by
  have h := add_q p (-q)
  rw [Rat.neg_num, Rat.neg_den] at h
  rw [Rat.sub_eq_add_neg, ← h]
  congr 1
  grind
theorem mul_q (p q : Rat) : Rat.divInt (p.num * q.num) (p.den * q.den) = p * q := by
  rw [Rat.mul_def]
  exact norm_eq (a := p.num * q.num) (Nat.mul_ne_zero p.den_nz q.den_nz)
theorem neg_q (p : Rat) : Rat.divInt (-p.num) (p.den) = -p := by rw [← Rat.neg_divInt, Rat.num_divInt_den]
theorem int_q (i : Int) : Rat.divInt i 1 = (i : Rat) := by rw [Rat.divInt_eq_div]; grind
theorem nd_q (p : Rat) : p = (p.num : Rat) / (p.den : Rat) := by
  have h : Rat.divInt p.num p.den = (p.num : Rat) / ((p.den : Int) : Rat) := Rat.divInt_eq_div _ _
  rw [Rat.num_divInt_den, Rat.intCast_natCast] at h
  exact h
theorem div_q (p q : Rat) (h : q.num ≠ 0) : Rat.divInt (p.num * q.den) (p.den * q.num) = p / q := by
  have e1 := nd_q p
  have e2 := nd_q q
  rw [Rat.divInt_eq_div]
  have n1 : (p.den : Rat) ≠ 0 := by simpa using p.den_nz
  have n2 : (q.den : Rat) ≠ 0 := by simpa using q.den_nz
  have n3 : (q.num : Rat) ≠ 0 := fun e => h (Rat.intCast_inj.mp e)
  rw [show p / q = ((p.num : Rat) / (p.den : Rat)) / ((q.num : Rat) / (q.den : Rat)) by rw [← e1, ← e2]]
  simp only [Rat.intCast_mul, Rat.intCast_natCast]
  grind
/-- the fraction of any top and bottom -/
def qd (a b : Int) : Rat := Rat.divInt a b
@[simp] theorem qd_add (p q : Rat) : qd (p.num * q.den + q.num * p.den) (p.den * q.den) = p + q := add_q p q
@[simp] theorem qd_sub (p q : Rat) : qd (p.num * q.den - q.num * p.den) (p.den * q.den) = p - q := sub_q p q
@[simp] theorem qd_mul (p q : Rat) : qd (p.num * q.num) (p.den * q.den) = p * q := mul_q p q
@[simp] theorem qd_neg (p : Rat) : qd (-p.num) (p.den) = -p := neg_q p
@[simp] theorem qd_addi (p : Rat) (i : Int) : qd (p.num + i * p.den) p.den = p + i := by have := add_q p i; simpa [qd] using this
@[simp] theorem qd_subi (p : Rat) (i : Int) : qd (p.num - i * p.den) p.den = p - i := by have := sub_q p i; simpa [qd] using this
@[simp] theorem qd_muli (p : Rat) (i : Int) : qd (p.num * i) p.den = p * i := by have := mul_q p i; simpa [qd] using this
theorem qd_div (p q : Rat) (h : q.num ≠ 0) : qd (p.num * q.den) (p.den * q.num) = p / q := div_q p q h
theorem qd_self (p : Rat) : qd p.num p.den = p := Rat.num_divInt_den p
theorem qd_eq (a b : Int) : qd a b = (a : Rat) / (b : Rat) := Rat.divInt_eq_div a b
theorem lt_q (p q : Rat) : p.num * q.den < q.num * p.den ↔ p < q := (Rat.lt_iff p q).symm
theorem le_q (p q : Rat) : p.num * q.den ≤ q.num * p.den ↔ p ≤ q := (Rat.le_iff p q).symm
theorem lt_qi (p : Rat) (i : Int) : p.num < i * p.den ↔ p < i := by have := lt_q p i; simpa using this
theorem le_qi (p : Rat) (i : Int) : p.num ≤ i * p.den ↔ p ≤ i := by have := le_q p i; simpa using this
theorem gt_qi (p : Rat) (i : Int) : i * p.den < p.num ↔ (i : Rat) < p := by have := lt_q i p; simpa using this
theorem ge_qi (p : Rat) (i : Int) : i * p.den ≤ p.num ↔ (i : Rat) ≤ p := by have := le_q i p; simpa using this
theorem num0 (q : Rat) : q.num = 0 ↔ q = 0 := by simp
theorem eq_q (p q : Rat) : (p.num = q.num ∧ (p.den : Int) = q.den) ↔ p = q := by
  constructor
  · rintro ⟨h1, h2⟩
    exact Rat.ext h1 (by exact_mod_cast h2)
  · rintro rfl
    exact ⟨rfl, rfl⟩
theorem qd_mul_den {a b : Int} (hb : 0 < b) : qd a b * (b : Rat) = a := by
  rw [qd_eq]
  have : (b : Rat) ≠ 0 := fun e => by have := Rat.intCast_inj.mp (show ((b : Int) : Rat) = ((0 : Int) : Rat) from e); omega
  grind
theorem pos_cast {b : Int} (hb : 0 < b) : (0 : Rat) < (b : Rat) := by exact_mod_cast hb
theorem qd_lt {a b c d : Int} (hb : 0 < b) (hd : 0 < d) : qd a b < qd c d ↔ a * d < c * b := by
  have h1 := qd_mul_den (a := a) hb
  have h2 := qd_mul_den (a := c) hd
  have hb' := pos_cast hb
  have hd' := pos_cast hd
  have hbd : (0 : Rat) < (b : Rat) * d := Rat.mul_pos hb' hd'
  rw [← Rat.mul_lt_mul_right hbd]
  have e1 : qd a b * ((b : Rat) * d) = ((a * d : Int) : Rat) := by rw [← Rat.mul_assoc, h1, Rat.intCast_mul]
  have e2 : qd c d * ((b : Rat) * d) = ((c * b : Int) : Rat) := by rw [Rat.mul_comm (b : Rat) d, ← Rat.mul_assoc, h2, Rat.intCast_mul]
  rw [e1, e2]
  exact Rat.intCast_lt_intCast
theorem qd_le {a b c d : Int} (hb : 0 < b) (hd : 0 < d) : qd a b ≤ qd c d ↔ a * d ≤ c * b := by
  have := qd_lt (a := c) (b := d) (c := a) (d := b) hd hb
  rw [← Rat.not_lt, this]
  omega
theorem qd_eq_iff {a b c d : Int} (hb : 0 < b) (hd : 0 < d) : qd a b = qd c d ↔ a * d = c * b := by
  have h1 := qd_le (a := a) (b := b) (c := c) (d := d) hb hd
  have h2 := qd_le (a := c) (b := d) (c := a) (d := b) hd hb
  constructor
  · intro e
    have a1 := h1.mp (by rw [e]; exact Rat.le_refl)
    have a2 := h2.mp (by rw [e]; exact Rat.le_refl)
    omega
  · intro e
    exact Rat.le_antisymm (h1.mpr (by omega)) (h2.mpr (by omega))
/-! sizes -/
theorem divInt_sz {t b : Int} {n : Nat} (hb : b ≠ 0) (h1 : t.natAbs < 2 ^ n) (h2 : b.natAbs < 2 ^ n) : Sz n (Rat.divInt t b) := by
  obtain ⟨e1, e2⟩ := amount_init (t := t) hb
  have key : ∀ (x : Int) (g : Nat), 0 < g → (x.fdiv (if b < 0 then -(g : Int) else g)).natAbs ≤ x.natAbs ∨ True := fun _ _ _ => .inr trivial
  have hq : Rat.divInt t b = mkRat (if b < 0 then -t else t) b.natAbs := by
    split
    · rw [← Rat.neg_divInt_neg, show (-b) = (b.natAbs : Int) by omega]
      exact Rat.divInt_ofNat _ _
    · rw [show Rat.divInt t b = Rat.divInt t (b.natAbs : Int) by rw [show (b.natAbs : Int) = b by omega]]
      exact Rat.divInt_ofNat _ _
  have hn : b.natAbs ≠ 0 := by omega
  rw [hq]
  unfold mkRat
  rw [dif_neg hn, Rat.normalize_eq]
  refine ⟨?_, ?_⟩
  · show ((if b < 0 then -t else t) / ((Nat.gcd _ _ : Nat) : Int)).natAbs < _
    refine Nat.lt_of_le_of_lt ?_ h1
    have : (if b < 0 then -t else t).natAbs = t.natAbs := by split <;> simp
    rw [← this]
    exact Int.natAbs_ediv_le_natAbs _ _
  · show b.natAbs / _ < _
    exact Nat.lt_of_le_of_lt (Nat.div_le_self _ _) h2
theorem pow_mul_lt {a b n m : Nat} (h1 : a < 2 ^ n) (h2 : b < 2 ^ m) : a * b < 2 ^ (n + m) := by
  rw [Nat.pow_add]
  exact Nat.mul_lt_mul_of_lt_of_le h1 (Nat.le_of_lt h2) (Nat.pow_pos (by decide))
theorem Sz.neg {n : Nat} {q : Rat} (h : Sz n q) : Sz n (-q) := by
  refine ⟨?_, ?_⟩
  · rw [Rat.neg_num, Int.natAbs_neg]; exact h.1
  · rw [Rat.neg_den]; exact h.2
theorem Sz.add {n m : Nat} {p q : Rat} (h1 : Sz n p) (h2 : Sz m q) : Sz (n + m + 1) (p + q) := by
  rw [← add_q]
  refine divInt_sz (by have := p.den_nz; have := q.den_nz; simp [this, *]) ?_ ?_
  · have a1 := pow_mul_lt h1.1 h2.2
    have a2 := pow_mul_lt h2.1 h1.2
    have e : 2 ^ (n + m + 1) = 2 ^ (n + m) + 2 ^ (n + m) := by rw [Nat.pow_succ]; omega
    rw [Nat.add_comm m n] at a2
    have b1 : (p.num * q.den).natAbs = p.num.natAbs * q.den := by rw [Int.natAbs_mul]; rfl
    have b2 : (q.num * p.den).natAbs = q.num.natAbs * p.den := by rw [Int.natAbs_mul]; rfl
    have := Int.natAbs_add_le (p.num * q.den) (q.num * p.den)
    omega
  · have := pow_mul_lt h1.2 h2.2
    have b1 : ((p.den : Int) * q.den).natAbs = p.den * q.den := by rw [Int.natAbs_mul]; rfl
    rw [b1, Nat.pow_succ]
    omega
theorem Sz.sub {n m : Nat} {p q : Rat} (h1 : Sz n p) (h2 : Sz m q) : Sz (n + m + 1) (p - q) := by
  rw [Rat.sub_eq_add_neg]; exact h1.add h2.neg
theorem Sz.mul {n m : Nat} {p q : Rat} (h1 : Sz n p) (h2 : Sz m q) : Sz (n + m) (p * q) := by
  rw [← mul_q]
  refine divInt_sz (by have := p.den_nz; have := q.den_nz; simp [this, *]) ?_ ?_
  · rw [Int.natAbs_mul]; exact pow_mul_lt h1.1 h2.1
  · have := pow_mul_lt h1.2 h2.2
    have b1 : ((p.den : Int) * q.den).natAbs = p.den * q.den := by rw [Int.natAbs_mul]; rfl
    rw [b1]; exact this
theorem Sz.div {n m : Nat} {p q : Rat} (h1 : Sz n p) (h2 : Sz m q) (h : q.num ≠ 0) : Sz (n + m) (p / q) := by
  rw [← div_q p q h]
  refine divInt_sz (by have := p.den_nz; simp [this, *]) ?_ ?_
  · rw [Int.natAbs_mul]; exact pow_mul_lt h1.1 h2.2
  · rw [Int.natAbs_mul]; exact pow_mul_lt h1.2 h2.1
theorem Sz.int {n : Nat} {i : Int} (h : i.natAbs < 2 ^ n) (hn : 0 < n) : Sz n (i : Rat) := ⟨by simpa using h, by
  have : (2 : Nat) ^ 1 ≤ 2 ^ n := Nat.pow_le_pow_right (by decide) hn
  simp; omega⟩
theorem pow_lt_B1 {a n : Nat} (h : a < 2 ^ n) (k : n ≤ 4000000) : a < B1 := Nat.lt_of_lt_of_le h (by unfold B1; exact Nat.pow_le_pow_right (by decide) k)
theorem pow_lt_B2 {a n : Nat} (h : a < 2 ^ n) (k : n ≤ 9000) : a < B2 := Nat.lt_of_lt_of_le h (by unfold B2; exact Nat.pow_le_pow_right (by decide) k)
theorem Sz.n1 {n : Nat} {q : Rat} (h : Sz n q) (k : n ≤ 4000000) : q.num.natAbs < B1 := pow_lt_B1 h.1 k
theorem Sz.d1 {n : Nat} {q : Rat} (h : Sz n q) (k : n ≤ 4000000) : (q.den : Int).natAbs < B1 := pow_lt_B1 (by simpa using h.2) k
theorem qd_sz {t b : Int} {n : Nat} (hb : b ≠ 0) (h1 : t.natAbs < 2 ^ n) (h2 : b.natAbs < 2 ^ n) : Sz n (qd t b) := divInt_sz hb h1 h2
end MP
set_option Elab.async false
set_option linter.all false
set_option maxRecDepth 100000
set_option maxHeartbeats 1000000
namespace MP
open PySem PySem.Spec PyProof.Rows L2 SP
section
variable {j : Nat} {st : Sto} {i t : Int} {b : Bool} {x : Str} {xs : List D} {kv : List (Key × D)} {q p : Rat} {n m : Nat}
@[simp] theorem q_isint_int : rn (j + 1) "is_integer" [.int i] st = .ok (.bl true) st := by rw [e_is_integer, b_is_integer]; simp
@[simp] theorem q_isint_non : rn (j + 1) "is_integer" [.non] st = .ok (.bl false) st := by rw [e_is_integer, b_is_integer]; simp
@[simp] theorem q_isint_bl : rn (j + 1) "is_integer" [.bl b] st = .ok (.bl false) st := by rw [e_is_integer, b_is_integer]; simp
@[simp] theorem q_isint_str : rn (j + 1) "is_integer" [.str x] st = .ok (.bl false) st := by rw [e_is_integer, b_is_integer]; simp
@[simp] theorem q_isint_tup : rn (j + 1) "is_integer" [.tup xs] st = .ok (.bl false) st := by rw [e_is_integer, b_is_integer]; simp
@[simp] theorem q_isint_lst : rn (j + 1) "is_integer" [.lst xs] st = .ok (.bl false) st := by rw [e_is_integer, b_is_integer]; simp
@[simp] theorem q_isint_dic : rn (j + 1) "is_integer" [.dic kv] st = .ok (.bl false) st := by rw [e_is_integer, b_is_integer]; simp
@[simp] theorem q_isint_amt : rn (j + 1) "is_integer" [amt q] st = .ok (.bl false) st := by rw [e_is_integer, b_is_integer]; simp
theorem euclid_loop {c : ET} {bd : SS} {n : Nat} (S : Int → Int → Sl) (hc : ∀ a b : Nat, c (S a b) st = .ok (decide (b ≠ 0)) st) (hb : ∀ a b : Nat, b ≠ 0 → bd n (S a b) st = .nx (S b (a % b : Nat)) st) :
    ∀ (k f a b : Nat), b < 2 ^ k → 2 * k + 1 ≤ f → sWhileF c bd f n (S a b) st = .nx (S (Nat.gcd a b) 0) st := by
  intro k
  induction k with
  | zero =>
    intro f a b h1 h2
    obtain ⟨f, rfl⟩ : ∃ g, f = g + 1 := ⟨f - 1, by omega⟩
    have : b = 0 := by simpa using h1
    subst this
    rw [while_, hc]
    simp [toS_ok]
  | succ k ih =>
    intro f a b h1 h2
    obtain ⟨f, rfl⟩ : ∃ g, f = g + 2 := ⟨f - 2, by omega⟩
    rw [show f + 2 = (f + 1) + 1 from rfl, while_, hc]
    by_cases e : b = 0
    · subst e; simp [toS_ok]
    · simp only [toS_ok, decide_eq_true_eq, e, ne_eq, not_false_eq_true, if_true, hb a b e, lp_nx]
      rw [while_, hc]
      by_cases e2 : a % b = 0
      · simp only [toS_ok, decide_eq_true_eq, e2, ne_eq, not_true_eq_false, if_false]
        rw [Nat.gcd_comm, Nat.gcd_rec, e2, Nat.gcd_zero_left]
        rfl
      · simp only [toS_ok, decide_eq_true_eq, e2, ne_eq, not_false_eq_true, if_true, hb b (a % b) e2, lp_nx]
        have hr : a % b < b := Nat.mod_lt _ (by omega)
        rw [ih f (a % b) (b % (a % b)) ?_ (by omega)]
        · rw [show Nat.gcd a b = Nat.gcd (a % b) (b % (a % b)) by rw [Nat.gcd_comm a b, Nat.gcd_rec b a, Nat.gcd_rec (a % b) b, Nat.gcd_comm]]
        · have e3 : 2 ^ (k + 1) = 2 ^ k + 2 ^ k := by rw [Nat.pow_succ]; omega
          rcases Nat.lt_or_ge (2 ^ k) (a % b) with h | h
          · have : b % (a % b) = b - a % b := by
              rw [Nat.mod_eq_sub_mod (by omega), Nat.mod_eq_of_lt (by omega)]
            omega
          · have : b % (a % b) < a % b := Nat.mod_lt _ (by omega)
            omega
theorem FU_le {k : Nat} (h : k ≤ 4000000) : 2 * k + 1 ≤ FU := by unfold FU; omega
theorem fmod_nat (a b : Nat) : Int.fmod (a : Int) (b : Int) = ((a % b : Nat) : Int) := by
  rw [Int.fmod_eq_emod_of_nonneg _ (by omega)]; rfl
@[simp] theorem q_gcd {a b : Nat} (hb : b < B1) : rn (j + 1) "shared_divisor" [.int a, .int b] st = .ok (.int (Nat.gcd a b : Nat)) st := by
  rw [e_shared_divisor, b_shared_divisor]
  simp
  rw [euclid_loop (fun a b => ⟨[some (.int a), some (.int b)], false⟩) (fun a b => ?_) (fun a b h => ?_) 4000000 FU a b hb (FU_le (Nat.le_refl _))]
  · simp
  · simp
  · have h2 : ((b : Nat) : Int) ≠ 0 := by omega
    simp only [sPar_, aCons_, aNil_, eVar_, eOp_, sl_get, List.getElem?_cons_zero, List.getElem?_cons_succ, Res.bind_ok, bMod_int h2, fmod_nat, toS_ok, sl_set, List.set_cons_zero, List.set_cons_succ]
@[simp] theorem abs_nat (i : Int) : (if i < 0 then -i else i) = (i.natAbs : Int) := by split <;> omega
theorem q_init {a b : Int} (hb : b ≠ 0) (h2 : b.natAbs < B2) : rn (j + 2) "Amount.__init__" [.mref st.length, .int a, .int b] (st ++ [.ins "Amount" []]) =
    .ok .non (st ++ [.ins "Amount" [("top", .int (Rat.divInt a b).num), ("bottom", .int (Rat.divInt a b).den)]]) := by
  have h1 : b.natAbs < B1 := Nat.lt_trans h2 (by unfold B1 B2; exact Nat.pow_lt_pow_right (by decide) (by decide))
  have hg : (Nat.gcd a.natAbs b.natAbs : Int) ≠ 0 := by
    have := Nat.gcd_pos_of_pos_right a.natAbs (n := b.natAbs) (by omega)
    omega
  have hg2 : Nat.gcd a.natAbs b.natAbs < B2 := Nat.lt_of_le_of_lt (Nat.le_of_dvd (by omega) (Nat.gcd_dvd_right _ _)) h2
  obtain ⟨e1, e2⟩ := SP.amount_init (t := a) hb
  rw [e_Amount_init, b_Amount_init]
  simp
  rw [if_neg hb]
  simp
  rw [q_gcd h1]
  simp
  have hd : (if b < 0 then -(Nat.gcd a.natAbs b.natAbs : Int) else Nat.gcd a.natAbs b.natAbs) ≠ 0 ∧ (if b < 0 then -(Nat.gcd a.natAbs b.natAbs : Int) else Nat.gcd a.natAbs b.natAbs).natAbs < B2 := by
    split
    · refine ⟨by omega, by rw [Int.natAbs_neg]; exact hg2⟩
    · exact ⟨by omega, hg2⟩
  by_cases h : b < 0
  · rw [if_pos h] at e1 e2 hd
    rw [if_pos h]
    simp
    rw [bDiv_int hd, e1]
    simp
    rw [bDiv_int hd, e2]
    simp
  · rw [if_neg h] at e1 e2 hd
    rw [if_neg h]
    simp
    rw [bDiv_int hd, e1]
    simp
    rw [bDiv_int hd, e2]
    simp
theorem q_init1 {a : Int} : rn (j + 2) "Amount.__init__" [.mref st.length, .int a] (st ++ [.ins "Amount" []]) =
    .ok .non (st ++ [.ins "Amount" [("top", .int (a : Rat).num), ("bottom", .int (a : Rat).den)]]) := by
  have h := q_init (j := j) (st := st) (a := a) (b := 1) (by decide) (by unfold B2; exact Nat.one_lt_two_pow (by decide))
  rw [int_q] at h
  rw [← h, e_Amount_init, e_Amount_init_2]
@[simp] theorem mk_amt {a b : Int} (h : Ld b) : mkI (sta (rn (j + 2))) "Amount" [.int a, .int b] st = .ok (amt (qd a b)) st := by
  rw [mk_Amount, q_init h.1 h.2, mkR_ok rfl]; rfl
@[simp] theorem mk_amt1 {a : Int} : mkI (sta (rn (j + 2))) "Amount" [.int a] st = .ok (amt (a : Rat)) st := by
  rw [mk_Amount, q_init1, mkR_ok rfl]; rfl
@[simp] theorem q_isnum_int : rn (j + 2) "Amount.is_number" [.int i] st = .ok (.bl true) st := by rw [e_Amount_is_number, b_Amount_is_number]; simp
@[simp] theorem q_isnum_amt : rn (j + 2) "Amount.is_number" [amt q] st = .ok (.bl true) st := by rw [e_Amount_is_number, b_Amount_is_number]; simp
@[simp] theorem q_isnum_non : rn (j + 2) "Amount.is_number" [.non] st = .ok (.bl false) st := by rw [e_Amount_is_number, b_Amount_is_number]; simp
@[simp] theorem q_isnum_bl : rn (j + 2) "Amount.is_number" [.bl b] st = .ok (.bl false) st := by rw [e_Amount_is_number, b_Amount_is_number]; simp
@[simp] theorem q_isnum_str : rn (j + 2) "Amount.is_number" [.str x] st = .ok (.bl false) st := by rw [e_Amount_is_number, b_Amount_is_number]; simp
@[simp] theorem q_isnum_tup : rn (j + 2) "Amount.is_number" [.tup xs] st = .ok (.bl false) st := by rw [e_Amount_is_number, b_Amount_is_number]; simp
@[simp] theorem q_isnum_lst : rn (j + 2) "Amount.is_number" [.lst xs] st = .ok (.bl false) st := by rw [e_Amount_is_number, b_Amount_is_number]; simp
@[simp] theorem q_isnum_dic : rn (j + 2) "Amount.is_number" [.dic kv] st = .ok (.bl false) st := by rw [e_Amount_is_number, b_Amount_is_number]; simp
@[simp] theorem q_of_int : rn (j + 3) "Amount.of" [.int i] st = .ok (amt (i : Rat)) st := by rw [e_Amount_of, b_Amount_of]; simp
@[simp] theorem q_of_amt : rn (j + 3) "Amount.of" [amt q] st = .ok (amt q) st := by rw [e_Amount_of, b_Amount_of]; simp
abbrev badNumber (d : D) : D := .exc "BadNumber" [("value", d)]
@[simp] theorem q_of_non : rn (j + 3) "Amount.of" [.non] st = .exc (badNumber .non) st := by rw [e_Amount_of, b_Amount_of]; simp
@[simp] theorem q_of_bl : rn (j + 3) "Amount.of" [.bl b] st = .exc (badNumber (.bl b)) st := by rw [e_Amount_of, b_Amount_of]; simp
@[simp] theorem q_of_str : rn (j + 3) "Amount.of" [.str x] st = .exc (badNumber (.str x)) st := by rw [e_Amount_of, b_Amount_of]; simp
@[simp] theorem q_of_tup : rn (j + 3) "Amount.of" [.tup xs] st = .exc (badNumber (.tup xs)) st := by rw [e_Amount_of, b_Amount_of]; simp
@[simp] theorem q_of_lst : rn (j + 3) "Amount.of" [.lst xs] st = .exc (badNumber (.lst xs)) st := by rw [e_Amount_of, b_Amount_of]; simp
@[simp] theorem q_of_dic : rn (j + 3) "Amount.of" [.dic kv] st = .exc (badNumber (.dic kv)) st := by rw [e_Amount_of, b_Amount_of]; simp
@[simp] theorem q_plain_amt : rn (j + 1) "is_plain" [amt q] st = .ok (.bl false) st := by rw [e_is_plain, b_is_plain]; simp
@[simp] theorem q_plain_non : rn (j + 1) "is_plain" [.non] st = .ok (.bl true) st := by rw [e_is_plain, b_is_plain]; simp
@[simp] theorem q_plain_bl : rn (j + 1) "is_plain" [.bl b] st = .ok (.bl true) st := by rw [e_is_plain, b_is_plain]; simp
@[simp] theorem q_plain_int : rn (j + 1) "is_plain" [.int i] st = .ok (.bl true) st := by rw [e_is_plain, b_is_plain]; simp
@[simp] theorem q_plain_str : rn (j + 1) "is_plain" [.str x] st = .ok (.bl true) st := by rw [e_is_plain, b_is_plain]; simp
@[simp] theorem q_plain_tup : rn (j + 1) "is_plain" [.tup xs] st = .ok (.bl true) st := by rw [e_is_plain, b_is_plain]; simp
@[simp] theorem q_plain_lst : rn (j + 1) "is_plain" [.lst xs] st = .ok (.bl true) st := by rw [e_is_plain, b_is_plain]; simp
@[simp] theorem q_plain_dic : rn (j + 1) "is_plain" [.dic kv] st = .ok (.bl true) st := by rw [e_is_plain, b_is_plain]; simp
/-- numbers below 2 ^ 4000 above and below: what the signs are for -/
abbrev Ok (q : Rat) : Prop := Sz 4000 q
theorem Ok.b1 (h : Ok q) : L1 q.num := h.n1 (by decide)
theorem Ok.b2 (h : Ok q) : L1 q.den := h.d1 (by decide)
theorem Ok.b3 (h : Ok q) : Ld q.den := ⟨by have := q.den_nz; omega, pow_lt_B2 (n := 4000) (by simpa using h.2) (by decide)⟩
@[simp] theorem L1_1 : L1 1 := by unfold L1 B1; exact Nat.one_lt_two_pow (by decide)
theorem Ok.dd (h1 : Ok p) (h2 : Ok q) : Ld ((p.den : Int) * q.den) := by
  refine ⟨by have := p.den_nz; have := q.den_nz; simp [this, *], ?_⟩
  rw [Int.natAbs_mul]
  exact pow_lt_B2 (pow_mul_lt (a := p.den) (b := q.den) h1.2 h2.2) (by decide)
@[simp] theorem q_add (h1 : Ok p) (h2 : Ok q) : rn (j + 4) "Amount.__add__" [amt p, amt q] st = .ok (amt (p + q)) st := by
  have a1 := h1.b1; have a2 := h1.b2; have a3 := h2.b1; have a4 := h2.b2; have a5 := h1.dd h2
  rw [e_Amount_add, b_Amount_add]
  simp [*]
@[simp] theorem q_sub (h1 : Ok p) (h2 : Ok q) : rn (j + 4) "Amount.__sub__" [amt p, amt q] st = .ok (amt (p - q)) st := by
  have a1 := h1.b1; have a2 := h1.b2; have a3 := h2.b1; have a4 := h2.b2; have a5 := h1.dd h2
  rw [e_Amount_sub, b_Amount_sub]
  simp [*]
@[simp] theorem q_mul (h1 : Ok p) (h2 : Ok q) : rn (j + 4) "Amount.__mul__" [amt p, amt q] st = .ok (amt (p * q)) st := by
  have a1 := h1.b1; have a2 := h1.b2; have a3 := h2.b1; have a4 := h2.b2; have a5 := h1.dd h2
  rw [e_Amount_mul, b_Amount_mul]
  simp [*]
theorem ok_int (h : i.natAbs < 2 ^ 4000) : Ok (i : Rat) := Sz.int h (by decide)
@[simp] theorem q_add_int (h1 : Ok p) (h2 : Ok (i : Rat)) : rn (j + 4) "Amount.__add__" [amt p, .int i] st = .ok (amt (p + i)) st := by
  have a1 := h1.b1; have a2 := h1.b2; have a3 : L1 i := by simpa using h2.b1
  have a5 := h1.b3
  rw [e_Amount_add, b_Amount_add]
  simp [*]
@[simp] theorem q_sub_int (h1 : Ok p) (h2 : Ok (i : Rat)) : rn (j + 4) "Amount.__sub__" [amt p, .int i] st = .ok (amt (p - i)) st := by
  have a1 := h1.b1; have a2 := h1.b2; have a3 : L1 i := by simpa using h2.b1
  have a5 := h1.b3
  rw [e_Amount_sub, b_Amount_sub]
  simp [*]
@[simp] theorem q_mul_int (h1 : Ok p) (h2 : Ok (i : Rat)) : rn (j + 4) "Amount.__mul__" [amt p, .int i] st = .ok (amt (p * i)) st := by
  have a1 := h1.b1; have a2 := h1.b2; have a3 : L1 i := by simpa using h2.b1
  have a5 := h1.b3
  rw [e_Amount_mul, b_Amount_mul]
  simp [*]
@[simp] theorem q_neg (h1 : Ok p) : rn (j + 3) "Amount.__neg__" [amt p] st = .ok (amt (-p)) st := by
  have a5 := h1.b3
  rw [e_Amount_neg, b_Amount_neg]
  simp [*]
@[simp] theorem q_radd (h1 : Ok p) (h2 : Ok (i : Rat)) : rn (j + 5) "Amount.__radd__" [amt p, .int i] st = .ok (amt (p + i)) st := by
  rw [e_Amount_radd, b_Amount_radd]; simp [*]
@[simp] theorem q_rmul (h1 : Ok p) (h2 : Ok (i : Rat)) : rn (j + 5) "Amount.__rmul__" [amt p, .int i] st = .ok (amt (p * i)) st := by
  rw [e_Amount_rmul, b_Amount_rmul]; simp [*]
@[simp] theorem q_rsub (h1 : Ok p) (h2 : Ok (i : Rat)) : rn (j + 5) "Amount.__rsub__" [amt p, .int i] st = .ok (amt (-p + i)) st := by
  have h3 : Ok (-p) := h1.neg
  rw [e_Amount_rsub, b_Amount_rsub]; simp [*]
@[simp] theorem q_abs (h1 : Ok p) : rn (j + 3) "Amount.__abs__" [amt p] st = .ok (amt (if p < 0 then -p else p)) st := by
  have a5 := h1.b3
  have e : qd (p.num.natAbs : Int) p.den = if p < 0 then -p else p := by
    have k : p < 0 ↔ p.num < 0 := by rw [Rat.lt_iff]; simp
    split
    · rename_i h
      rw [show (p.num.natAbs : Int) = -p.num by have := k.mp h; omega]; exact neg_q p
    · rename_i h
      rw [show (p.num.natAbs : Int) = p.num by have := mt k.mpr h; omega]; exact Rat.num_divInt_den p
  rw [e_Amount_abs, b_Amount_abs]
  simp [*]
@[simp] theorem q_bool : rn (j + 1) "Amount.__bool__" [amt p] st = .ok (.bl (decide (p ≠ 0))) st := by
  rw [e_Amount_bool, b_Amount_bool]
  simp
  congr 2
  have := num0 p
  by_cases h : p = 0 <;> simp [h]
@[simp] theorem q_eq : rn (j + 2) "Amount.__eq__" [amt p, amt q] st = .ok (.bl (decide (p = q))) st := by
  rw [e_Amount_eq, b_Amount_eq]
  simp
  rw [← Bool.decide_and]
  exact decide_eq_decide.mpr (by have := eq_q p q; simpa using this)
@[simp] theorem q_eq_int : rn (j + 2) "Amount.__eq__" [amt p, .int i] st = .ok (.bl (decide (p = i))) st := by
  rw [e_Amount_eq, b_Amount_eq]
  simp
  rw [← Bool.decide_and]
  exact decide_eq_decide.mpr (by have := eq_q p i; simp at this; rw [← this]; constructor <;> (rintro ⟨h1, h2⟩; exact ⟨by omega, by omega⟩))
@[simp] theorem q_eq_non : rn (j + 2) "Amount.__eq__" [amt p, .non] st = .ok (.bl false) st := by rw [e_Amount_eq, b_Amount_eq]; simp
@[simp] theorem q_eq_bl : rn (j + 2) "Amount.__eq__" [amt p, .bl b] st = .ok (.bl false) st := by rw [e_Amount_eq, b_Amount_eq]; simp
@[simp] theorem q_eq_str : rn (j + 2) "Amount.__eq__" [amt p, .str x] st = .ok (.bl false) st := by rw [e_Amount_eq, b_Amount_eq]; simp
@[simp] theorem q_eq_tup : rn (j + 2) "Amount.__eq__" [amt p, .tup xs] st = .ok (.bl false) st := by rw [e_Amount_eq, b_Amount_eq]; simp
@[simp] theorem q_eq_lst : rn (j + 2) "Amount.__eq__" [amt p, .lst xs] st = .ok (.bl false) st := by rw [e_Amount_eq, b_Amount_eq]; simp
@[simp] theorem q_eq_dic : rn (j + 2) "Amount.__eq__" [amt p, .dic kv] st = .ok (.bl false) st := by rw [e_Amount_eq, b_Amount_eq]; simp
section
variable {h1 : Ok p}
@[simp] theorem q_lt (h1 : Ok p) (h2 : Ok q) : rn (j + 4) "Amount.__lt__" [amt p, amt q] st = .ok (.bl (decide (p < q))) st := by
  have a1 := h1.b1; have a2 := h1.b2; have a3 := h2.b1; have a4 := h2.b2
  rw [e_Amount_lt, b_Amount_lt]; simp [*]; exact lt_q p q
@[simp] theorem q_le (h1 : Ok p) (h2 : Ok q) : rn (j + 4) "Amount.__le__" [amt p, amt q] st = .ok (.bl (decide (p ≤ q))) st := by
  have a1 := h1.b1; have a2 := h1.b2; have a3 := h2.b1; have a4 := h2.b2
  rw [e_Amount_le, b_Amount_le]; simp [*]; exact le_q p q
@[simp] theorem q_gt (h1 : Ok p) (h2 : Ok q) : rn (j + 4) "Amount.__gt__" [amt p, amt q] st = .ok (.bl (decide (q < p))) st := by
  have a1 := h1.b1; have a2 := h1.b2; have a3 := h2.b1; have a4 := h2.b2
  rw [e_Amount_gt, b_Amount_gt]; simp [*]; exact lt_q q p
@[simp] theorem q_ge (h1 : Ok p) (h2 : Ok q) : rn (j + 4) "Amount.__ge__" [amt p, amt q] st = .ok (.bl (decide (q ≤ p))) st := by
  have a1 := h1.b1; have a2 := h1.b2; have a3 := h2.b1; have a4 := h2.b2
  rw [e_Amount_ge, b_Amount_ge]; simp [*]; exact le_q q p
@[simp] theorem q_lt_int (h1 : Ok p) (h2 : Ok (i : Rat)) : rn (j + 4) "Amount.__lt__" [amt p, .int i] st = .ok (.bl (decide (p < i))) st := by
  have a1 := h1.b1; have a2 := h1.b2; have a3 : L1 i := by simpa using h2.b1
  rw [e_Amount_lt, b_Amount_lt]; simp [*]; exact lt_qi p i
@[simp] theorem q_le_int (h1 : Ok p) (h2 : Ok (i : Rat)) : rn (j + 4) "Amount.__le__" [amt p, .int i] st = .ok (.bl (decide (p ≤ i))) st := by
  have a1 := h1.b1; have a2 := h1.b2; have a3 : L1 i := by simpa using h2.b1
  rw [e_Amount_le, b_Amount_le]; simp [*]; exact le_qi p i
@[simp] theorem q_gt_int (h1 : Ok p) (h2 : Ok (i : Rat)) : rn (j + 4) "Amount.__gt__" [amt p, .int i] st = .ok (.bl (decide ((i : Rat) < p))) st := by
  have a1 := h1.b1; have a2 := h1.b2; have a3 : L1 i := by simpa using h2.b1
  rw [e_Amount_gt, b_Amount_gt]; simp [*]; exact gt_qi p i
@[simp] theorem q_ge_int (h1 : Ok p) (h2 : Ok (i : Rat)) : rn (j + 4) "Amount.__ge__" [amt p, .int i] st = .ok (.bl (decide ((i : Rat) ≤ p))) st := by
  have a1 := h1.b1; have a2 := h1.b2; have a3 : L1 i := by simpa using h2.b1
  rw [e_Amount_ge, b_Amount_ge]; simp [*]; exact ge_qi p i
end
@[simp] theorem q_per (h1 : Ok p) (h2 : Ok q) (h : q ≠ 0) : rn (j + 4) "Amount.per" [amt p, amt q] st = .ok (amt (p / q)) st := by
  have a1 := h1.b1; have a2 := h1.b2; have a3 := h2.b1; have a4 := h2.b2
  have a0 : q.num ≠ 0 := fun e => h ((num0 q).mp e)
  have a5 : Ld ((p.den : Int) * q.num) := by
    refine ⟨by have := p.den_nz; simp [this, *], ?_⟩
    rw [Int.natAbs_mul]
    exact pow_lt_B2 (pow_mul_lt (a := p.den) h1.2 h2.1) (by decide)
  rw [e_Amount_per, b_Amount_per]
  simp [*, qd_div p q a0]
theorem q_per_int (h1 : Ok p) (h2 : Ok (i : Rat)) (h : i ≠ 0) : rn (j + 4) "Amount.per" [amt p, .int i] st = .ok (amt (p / i)) st := by
  have a1 := h1.b1; have a2 := h1.b2; have a3 : L1 i := by simpa using h2.b1
  have a5 : Ld ((p.den : Int) * i) := by
    refine ⟨by have := p.den_nz; simp [this, *], ?_⟩
    rw [Int.natAbs_mul]
    have h3 : i.natAbs < 2 ^ 4000 := by simpa using h2.1
    exact pow_lt_B2 (pow_mul_lt (a := p.den) h1.2 h3) (by decide)
  have e : qd p.num (p.den * i) = p / i := by
    have := qd_div p (i : Rat) (by simpa using h)
    simpa using this
  rw [e_Amount_per, b_Amount_per]
  simp [*]
@[simp] theorem q_per0 : rn (j + 4) "Amount.per" [amt p, amt 0] st = .exc (badNumber (amt 0)) st := by
  rw [e_Amount_per, b_Amount_per]; simp
end
end MP
set_option Elab.async false
set_option linter.all false
set_option maxRecDepth 100000
set_option maxHeartbeats 1000000
/-! comprehensions are run -/
namespace MP
open PySem PySem.Spec PyProof.Rows L2 SP
section
variable {g : TM} {c : ET} {m : EE} {sl0 : Sl} {xs : List D} {st : Sto} {sl : Sl} {mi : EI} {vs : List Nat} {Q : D → Sto → Prop}
theorem lc_gen {it : IT} (I : Nat → List D → Sto → Prop) (hl : xs.length < 1000000) (hit : ∀ i acc st, I i acc st → nextI it i st = some xs[i]?)
    (step : ∀ i x acc st, xs[i]? = some x → acc.length ≤ i → I i acc st → ∃ y st', lcTurn g c m sl0 x st = some (y, st') ∧ I (i + 1) (acc ++ y.toList) st') :
    ∀ (k i f : Nat) (acc : List D) (st : Sto), i + k = xs.length → k < f → acc.length ≤ i → I i acc st → ∃ ys st', lcG g c m sl0 it f i acc st = some (ys, st') ∧ I xs.length ys st' := by
  intro k
  induction k with
  | zero =>
    intro i f acc st hi hf ha hI
    obtain ⟨f, rfl⟩ : ∃ g, f = g + 1 := ⟨f - 1, by omega⟩
    have e : xs[i]? = none := List.getElem?_eq_none (by omega)
    refine ⟨acc, st, ?_, ?_⟩
    · simp only [lcG, hit i acc st hI, e]
    · have : i = xs.length := by omega
      rw [← this]; exact hI
  | succ k ih =>
    intro i f acc st hi hf ha hI
    obtain ⟨f, rfl⟩ : ∃ g, f = g + 1 := ⟨f - 1, by omega⟩
    have hlt : i < xs.length := by omega
    have e : xs[i]? = some xs[i] := List.getElem?_eq_getElem hlt
    obtain ⟨y, st', e1, h1⟩ := step i _ acc st e ha hI
    cases y with
    | none =>
      obtain ⟨ys, st2, e2, h2⟩ := ih (i + 1) f acc st' (by omega) (by omega) (by omega) (by simpa using h1)
      refine ⟨ys, st2, ?_, h2⟩
      simp only [lcG, hit i acc st hI, e, e1]
      exact e2
    | some y =>
      obtain ⟨ys, st2, e2, h2⟩ := ih (i + 1) f (acc ++ [y]) st' (by omega) (by omega) (by simp; omega) (by simpa using h1)
      refine ⟨ys, st2, ?_, h2⟩
      simp only [lcG, hit i acc st hI, e, e1]
      rw [if_pos (by omega)]
      exact e2
theorem FU_big : 1000000 < FU := by unfold FU; decide
/-- what a walk sees of the store -/
def seesI (it : IT) (xs : List D) (st : Sto) : Prop := match it with
  | .fix ys => ys = xs
  | .live k => seqOf (.mref k) st = some xs
theorem seesI_next {it : IT} (h : seesI it xs st) (i : Nat) : nextI it i st = some xs[i]? := by
  cases it with
  | fix ys => cases h; rfl
  | live k =>
    have h : seqOf (.mref k) st = some xs := h
    show (seqOf (.mref k) st).map (·[i]?) = _
    rw [h]
    rfl
theorem lcG_map {it : IT} {f : D → Option D} (hit : seesI it xs st) (hl : xs.length < 1000000) (h : ∀ x ∈ xs, lcTurn g c m sl0 x st = some (f x, st)) : lcG g c m sl0 it FU 0 [] st = some (xs.filterMap f, st) := by
  obtain ⟨ys, st', e, rfl, rfl⟩ := lc_gen (g := g) (c := c) (m := m) (sl0 := sl0) (xs := xs) (it := it) (fun i acc s => acc = (xs.take i).filterMap f ∧ s = st) hl (fun i acc s hI => by rw [hI.2]; exact seesI_next hit i) (fun i x acc s hx _ hI => by
    obtain ⟨rfl, rfl⟩ := hI
    refine ⟨f x, s, h x (List.mem_of_getElem? hx), ?_, rfl⟩
    have hlt : i < xs.length := (List.getElem?_eq_some_iff.mp hx).1
    have hx' : xs[i] = x := (List.getElem?_eq_some_iff.mp hx).2
    rw [List.take_succ, List.filterMap_append, hx]
    cases hf : f x <;> simp [List.filterMap_cons, hf]) xs.length 0 FU [] st (by omega) (by have := FU_big; omega) (Nat.le_refl _) ⟨by simp, rfl⟩
  rw [e]
  simp
/-- a comprehension that changes nothing -/
theorem eLc_map {f : D → Option D} (hi : mi sl st = .ok (.fix xs) st) (hl : xs.length < 1000000) (h : ∀ x ∈ xs, lcTurn g c m (sl.wipe vs) x st = some (f x, st)) : eLc mi g c m vs sl st = .ok (.lst (xs.filterMap f)) st := by
  unfold eLc
  rw [hi, Res.bind_ok, lcG_map (xs := xs) (it := .fix xs) (show xs = xs from rfl) hl h]
theorem eLc_mapL {f : D → Option D} {k : Nat} (hi : mi sl st = .ok (.live k) st) (hk : seqOf (.mref k) st = some xs) (hl : xs.length < 1000000) (h : ∀ x ∈ xs, lcTurn g c m (sl.wipe vs) x st = some (f x, st)) : eLc mi g c m vs sl st = .ok (.lst (xs.filterMap f)) st := by
  unfold eLc
  rw [hi, Res.bind_ok, lcG_map (xs := xs) (it := .live k) hk hl h]
/-- one that draws -/
theorem eLc_wp {E : D → Sto → Prop} {it : IT} (I : Nat → List D → Sto → Prop) (hi : mi sl st = .ok it st) (hl : xs.length < 1000000) (h0 : I 0 [] st) (hit : ∀ i acc st, I i acc st → seesI it xs st)
    (step : ∀ i x acc st, xs[i]? = some x → acc.length ≤ i → I i acc st → ∃ sl1, g x (sl.wipe vs) = some sl1 ∧ (c sl1 st).wp (fun b st => if b = true then (m sl1 st).wp (fun y st => I (i + 1) (acc ++ [y]) st) else I (i + 1) acc st))
    (he : ∀ ys st, ys.length ≤ xs.length → I xs.length ys st → Q (.lst ys) st) : (eLc mi g c m vs sl st).wp Q E := by
  obtain ⟨ys, st', e, h1, h2⟩ := lc_gen (g := g) (c := c) (m := m) (sl0 := sl.wipe vs) (xs := xs) (it := it) (fun i acc s => I i acc s ∧ acc.length ≤ i) hl (fun i acc s hI => seesI_next (hit i acc s hI.1) i) (fun i x acc s hx ha hI => by
    obtain ⟨sl1, e1, h1⟩ := step i x acc s hx ha hI.1
    unfold lcTurn
    rw [e1]
    simp only []
    revert h1
    cases c sl1 s with
    | ok b s2 =>
      intro h1
      simp only [wp_ok] at h1
      by_cases hb : b = true
      · rw [if_pos hb] at h1
        simp only [hb, if_true]
        revert h1
        cases m sl1 s2 with
        | ok y s3 => exact fun h1 => ⟨some y, s3, rfl, h1.q, by simp; omega⟩
        | exc e s3 => exact fun h => h.q.elim
        | bad => exact fun h => h.q.elim
      · rw [if_neg hb] at h1
        simp only [if_neg hb]
        exact ⟨none, s2, rfl, by simpa using h1, by simp; omega⟩
    | exc e s2 => exact fun h => h.q.elim
    | bad => exact fun h => h.q.elim) xs.length 0 FU [] st (by omega) (by have := FU_big; omega) (Nat.le_refl _) ⟨h0, Nat.le_refl _⟩
  unfold eLc
  rw [hi, Res.bind_ok, e]
  exact ⟨he _ _ h2 h1⟩
/-- slots are wiped one by one -/
def wipeL (vs : List Nat) : Nat → List (Option D) → List (Option D)
  | _, [] => []
  | k, x :: r => (if k ∈ vs then none else x) :: wipeL vs (k + 1) r
theorem wipeL_eq (vs : List Nat) : ∀ (v : List (Option D)) (k : Nat), wipeL vs k v = (List.range v.length).map fun i => if k + i ∈ vs then none else (v[i]?).getD none
  | [], k => rfl
  | x :: r, k => by
    rw [wipeL, wipeL_eq vs r (k + 1), List.length_cons, List.range_succ_eq_map]
    simp [Function.comp_def, Nat.add_comm, Nat.add_left_comm, Nat.add_assoc]
theorem wipe_ (vs : List Nat) (v : List (Option D)) : (Sl.mk v false).wipe vs = ⟨wipeL vs 0 v, false⟩ := by rw [wipeL_eq]; simp [Sl.wipe]
@[simp] theorem wipeL_nil (vs : List Nat) (k : Nat) : wipeL vs k [] = [] := rfl
@[simp] theorem wipeL_cons (vs : List Nat) (k : Nat) (x : Option D) (r : List (Option D)) : wipeL vs k (x :: r) = (if k ∈ vs then none else x) :: wipeL vs (k + 1) r := rfl
@[simp] theorem tmN_ (i : Nat) (d : D) : tmN i d sl = some (sl.set i d) := rfl
@[simp] theorem tmT_ (k : Nat) (ms : TMs) (ds : List D) (h : ds.length = k) : tmT k ms (.tup ds) sl = ms ds sl := by unfold tmT; simp [h]
@[simp] theorem tmNil_ : tmNil [] sl = some sl := rfl
@[simp] theorem tmC_ (a : TM) (ms : TMs) (d : D) (ds : List D) : tmC a ms (d :: ds) sl = (a d sl).bind (ms ds) := rfl
/-! a list behind all others of the store -/
section
variable {P : MO} {s : Sto} {o o' : MO}
@[simp] theorem getE_cl : (P :: (s ++ [o]))[s.length + 1]? = some o := by simp
@[simp] theorem set_cl : (P :: (s ++ [o])).set (s.length + 1) o' = P :: (s ++ [o']) := by simp
@[simp] theorem seqOf_cl {ys : List D} : seqOf (.mref (s.length + 1)) (P :: (s ++ [.lst ys])) = some ys := by unfold seqOf; simp
@[simp] theorem seqOf_l {ys : List D} : seqOf (.mref s.length) (s ++ [.lst ys]) = some ys := by unfold seqOf; simp
@[simp] theorem seqOf_lst {ys : List D} : seqOf (.lst ys) s = some ys := rfl
theorem itSeqT_mref {k : Nat} {ys : List D} (h : seqOf (.mref k) s = some ys) : itSeqT (.mref k) s = .ok (.live k) s := by
  unfold itSeqT
  show itSeq (.mref k) s = _
  unfold itSeq
  simp only [h]
@[simp] theorem itSeqT_lst {ys : List D} : itSeqT (.lst ys) s = .ok (.fix ys) s := rfl
@[simp] theorem itSeqT_slst {ys : List D} : itSeqT (.slst ys) s = .ok (.fix ys) s := rfl
@[simp] theorem itSeqT_tup {ys : List D} : itSeqT (.tup ys) s = .ok (.fix ys) s := rfl
theorem m_append_ (T : Tb) (mo : EE) (ma : EA) : m_append T mo ma sl st = (mo sl st).bind fun o st => if isLstD o st = true then (ma sl st).bind fun xs => mAppend o xs else .bad := rfl
theorem isLst_of {k : Nat} {ys : List D} (h : seqOf (.mref k) s = some ys) : isLstD (.mref k) s = true := by unfold isLstD; rw [h]; rfl
theorem mAppend_ {k : Nat} {ys : List D} {y : D} (h : s[k]? = some (.lst ys)) (hl : ys.length < 1000000) : mAppend (.mref k) [y] s = .ok .non (s.set k (.lst (ys ++ [y]))) := by
  unfold mAppend
  simp only [h, if_pos hl]
theorem intsOf_map (ts : List Int) : intsOf (ts.map D.int) = some ts := by
  induction ts with
  | nil => rfl
  | cons t ts ih => simp [intsOf, ih]
theorem b_sum_ints (T : Tb) {d : D} {ts : List Int} (h : seqOf d st = some (ts.map D.int)) : b_sum T [d] st = .ok (.int ts.sum) st := by
  show sumL [d] st = _
  unfold sumL
  simp only [h, intsOf_map]
theorem b_len_mref (T : Tb) {k : Nat} {ys : List D} (h : seqOf (.mref k) st = some ys) : b_len T [.mref k] st = .ok (.int (ys.length : Nat)) st := by
  show cLen [.mref k] st = _
  unfold cLen itemsOf
  simp only [h]
theorem bMul_lst (T : Tb) {ys : List D} {k : Int} (h : ys.length * k.toNat ≤ 1000000) (h2 : k.natAbs ≤ 1000000) : bMul T (.lst ys) (.int k) st = .ok (.lst (List.replicate k.toNat ys).flatten) st := by
  unfold bMul
  rw [orM_r rfl]
  unfold orM lMul
  simp only [seqOf_lst, if_pos (And.intro h h2)]
@[simp] theorem b_tuple_lst (T : Tb) {ys : List D} (h : ys.length ≤ 1000000) : b_tuple T [.lst ys] st = .ok (.tup ys) st := by
  show cTuple [.lst ys] st = _
  unfold cTuple
  simp [h, itemsOf, seqOf]
@[simp] theorem b_list_lst (T : Tb) {ys : List D} : b_list T [.lst ys] st = .ok (.lst ys) st := rfl
@[simp] theorem rng1_ {k : Int} (h : -(2 ^ 62) ≤ k) (h2 : k < 2 ^ 62) : rng1 [.int k] s = .ok (.fix (rangeD 0 k.toNat)) s := by unfold rng1; simp only []; rw [if_pos ⟨h, h2⟩]
end
@[simp] theorem pick_nil {α : Type} (l : List α) : pick [] l = [] := rfl
@[simp] theorem pick_cons {α : Type} (i : Nat) (ix : List Nat) (l : List α) : pick (i :: ix) l = match l[i]? with | some x => x :: pick ix l | none => pick ix l := by
  unfold pick
  rw [List.filterMap_cons]
  cases l[i]? <;> rfl
@[simp] theorem tTrue_ : tTrue sl st = .ok true st := rfl
end
end MP
set_option Elab.async false
set_option linter.all false
set_option maxRecDepth 100000
set_option maxHeartbeats 1000000
/-! texts of numbers -/
namespace MP
open PySem PySem.Spec PyProof.Rows L2 SP TL NumText
/-- the signs of an int -/
def numI (i : Int) : List Nat := if i < 0 then 45 :: numL i.natAbs else numL i.natAbs
def decT (i : Int) : Str := (toString i : String)
theorem tl_dec (i : Int) : tl (decT i) = numI i := by
  unfold decT numI
  split
  · rename_i h
    obtain ⟨k, rfl⟩ : ∃ k : Nat, i = Int.negSucc k := ⟨i.natAbs - 1, by omega⟩
    have h1 : (toString (Int.negSucc k)) = "-" ++ toString (((k + 1 : Nat) : Int)) := rfl
    rw [h1]
    have h2 : tl (Str.ofString ("-" ++ toString (((k + 1 : Nat) : Int)))) = 45 :: tl (Str.ofString (toString (((k + 1 : Nat) : Int)))) := by
      rw [tl_ofString, tl_ofString]; simp
    exact h2.trans (by rw [tl_num]; rfl)
  · rename_i h
    obtain ⟨k, rfl⟩ : ∃ k : Nat, i = k := ⟨i.natAbs, by omega⟩
    exact tl_num k
/-- behind a minus -/
def figs (l : List Nat) : List Nat := if l.take 1 = [45] then l.drop 1 else l
def isDig (c : Nat) : Bool := decide (48 ≤ c) && decide (c ≤ 57)
def whole (l : List Nat) : Prop := figs l ≠ [] ∧ (∀ c ∈ figs l, isDig c = true) ∧ (l = [48] ∨ (figs l).head? ≠ some 48)
instance : DecidablePred whole := fun l => by unfold whole; infer_instance
def valI (l : List Nat) : Int := if l.take 1 = [45] then -(digitsVal (figs l) : Int) else digitsVal (figs l)
theorem isDig_iff {c : Nat} : isDig c = true ↔ 48 ≤ c ∧ c ≤ 57 := by simp [isDig]
theorem dv_snoc (l : List Nat) (c : Nat) : digitsVal (l ++ [c]) = digitsVal l * 10 + (c - 48) := by simp [digitsVal]
theorem head_numL (n : Nat) (h : n ≠ 0) : (numL n).head? ≠ some 48 := by
  induction n using Nat.strongRecOn with
  | _ n ih =>
    by_cases h1 : n < 10
    · rw [numL_lt h1]
      intro e
      simp at e
      omega
    · rw [numL_step (by omega)]
      have h2 := ih (n / 10) (by omega) (by omega)
      have h3 := numL_ne (n / 10)
      cases q : numL (n / 10) with
      | nil => exact absurd q h3
      | cons a r => rw [q] at h2; simpa using h2
theorem numL_dv' : ∀ (n : Nat) (l : List Nat), l.length = n → l ≠ [] → AllDigits l → (l.head? ≠ some 48 ∨ l = [48]) → numL (digitsVal l) = l := by
  intro n
  induction n using Nat.strongRecOn with
  | _ n ih =>
    intro l h hne hd h0
    obtain ⟨r, c, rfl⟩ : ∃ r c, l = r ++ [c] := ⟨l.dropLast, l.getLast hne, (List.dropLast_concat_getLast hne).symm⟩
    have hc := hd c (by simp)
    rw [dv_snoc]
    by_cases hr : r = []
    · subst hr
      have : digitsVal [] = 0 := rfl
      rw [this, numL_lt (by omega)]
      simp
      omega
    · have hrd : AllDigits r := fun x hx => hd x (by simp [hx])
      have hr0 : r.head? ≠ some 48 := by
        rcases h0 with h0 | h0
        · cases r with
          | nil => exact absurd rfl hr
          | cons a r => simpa using h0
        · exfalso
          have := congrArg List.length h0
          simp at this
          exact hr this
      have hlen : r.length < n := by
        rw [List.length_append] at h
        simp only [List.length_cons, List.length_nil] at h
        omega
      have e := ih r.length hlen r rfl hr hrd (.inl hr0)
      have hpos : digitsVal r ≠ 0 := by
        intro z
        rw [z, numL_lt (by decide)] at e
        rw [← e] at hr0
        exact hr0 rfl
      rw [numL_step (by omega)]
      rw [show (digitsVal r * 10 + (c - 48)) / 10 = digitsVal r by omega, e, show 48 + (digitsVal r * 10 + (c - 48)) % 10 = c by omega]
theorem numL_dv (l : List Nat) (h1 : l ≠ []) (h2 : AllDigits l) (h3 : l.head? ≠ some 48 ∨ l = [48]) : numL (digitsVal l) = l := numL_dv' _ l rfl h1 h2 h3
theorem figs_num (i : Int) : figs (numI i) = numL i.natAbs := by
  unfold figs numI
  split
  · simp
  · rename_i h
    split
    · rename_i h2
      have hd := numL_digits i.natAbs
      cases q : numL i.natAbs with
      | nil => rfl
      | cons a r =>
        rw [q] at h2 hd
        simp at h2
        have := hd a (by simp)
        omega
    · rfl
theorem take_num (i : Int) : (numI i).take 1 = [45] ↔ i < 0 := by
  unfold numI
  split
  · simp [*]
  · rename_i h
    simp only [h, iff_false]
    have hd := numL_digits i.natAbs
    cases q : numL i.natAbs with
    | nil => simp
    | cons a r =>
      rw [q] at hd
      have := hd a (by simp)
      simp; omega
theorem whole_num (i : Int) : whole (numI i) := by
  refine ⟨by rw [figs_num]; exact numL_ne _, fun c hc => by rw [figs_num] at hc; exact isDig_iff.mpr (numL_digits _ c hc), ?_⟩
  by_cases h : i = 0
  · subst h
    left
    show numL 0 = [48]
    exact numL_lt (by decide)
  · right
    rw [figs_num]
    exact head_numL _ (by omega)
theorem val_num (i : Int) : valI (numI i) = i := by
  unfold valI
  rw [figs_num, numL_val]
  split
  · rename_i h
    have := (take_num i).mp h
    omega
  · rename_i h
    have := mt (take_num i).mpr h
    omega
theorem whole_eq {l : List Nat} (h : whole l) : l = numI (valI l) := by
  obtain ⟨h1, h2, h3⟩ := h
  have hd : AllDigits (figs l) := fun c hc => isDig_iff.mp (h2 c hc)
  by_cases ht : l.take 1 = [45]
  · have ef : figs l = l.drop 1 := if_pos ht
    have el : l = 45 :: figs l := by
      rw [ef]
      cases l with
      | nil => simp at ht
      | cons a r => simp at ht; simp [ht]
    have h4 : (figs l).head? ≠ some 48 := by
      rcases h3 with h3 | h3
      · rw [h3] at ht; simp at ht
      · exact h3
    have e := numL_dv (figs l) h1 hd (.inl h4)
    have hpos : digitsVal (figs l) ≠ 0 := by
      intro z
      rw [z, numL_lt (by decide)] at e
      rw [← e] at h4
      exact h4 rfl
    unfold valI
    rw [if_pos ht]
    unfold numI
    rw [if_pos (by omega)]
    rw [show (-(digitsVal (figs l) : Int)).natAbs = digitsVal (figs l) by omega, e]
    exact el
  · have ef : figs l = l := if_neg ht
    have h4 : l.head? ≠ some 48 ∨ l = [48] := by
      rcases h3 with h3 | h3
      · exact .inr h3
      · rw [ef] at h3; exact .inl h3
    have e := numL_dv l (ef ▸ h1) (ef ▸ hd) h4
    unfold valI
    rw [if_neg ht, ef]
    unfold numI
    rw [if_neg (by omega)]
    rw [show ((digitsVal l : Int)).natAbs = digitsVal l by omega, e]
theorem numI_inj {a b : Int} (h : numI a = numI b) : a = b := by rw [← val_num a, h, val_num]
theorem int_whole {x : Str} (h : whole (tl x)) (hl : x.length ≤ 640) : PySem.intText? x = some (valI (tl x)) := by
  obtain ⟨h1, h2, h3⟩ := h
  have hd : AllDigits (figs (tl x)) := fun c hc => isDig_iff.mp (h2 c hc)
  unfold valI
  by_cases ht : (tl x).take 1 = [45]
  · have ef : figs (tl x) = (tl x).drop 1 := if_pos ht
    rw [if_pos ht]
    refine intText_neg ?_ hd h1 (by omega)
    rw [ef]
    show tl x = _
    cases q : tl x with
    | nil => rw [q] at ht; simp at ht
    | cons a r => rw [q] at ht; simp at ht; simp [ht]
  · have ef : figs (tl x) = tl x := if_neg ht
    rw [if_neg ht, ef]
    rw [ef] at hd h1
    exact intText_digits hd h1 (by omega)
theorem num_free (i : Int) {s : Nat} (h : (s < 48 ∨ 57 < s) ∧ s ≠ 45) : s ∉ numI i := by
  unfold numI
  split
  · simp [h.2, numL_free h.1]
  · exact numL_free h.1
theorem dec_len {i : Int} {k : Nat} (hk : 0 < k) (h : i.natAbs < 10 ^ k) : (decT i).length ≤ k + 1 := by
  rw [len_tl, tl_dec]
  unfold numI
  have := numL_len hk h
  split <;> simp <;> omega
theorem whole_dec (i : Int) : whole (tl (decT i)) := by rw [tl_dec]; exact whole_num i
theorem val_dec (i : Int) : valI (tl (decT i)) = i := by rw [tl_dec]; exact val_num i
theorem dec_whole {x : Str} (h : whole (tl x)) : x = decT (valI (tl x)) := ext_tl (by rw [tl_dec]; exact whole_eq h)
/-! fractions -/
def amtS (q : Rat) : Str := if q.den = 1 then decT q.num else decT q.num ++ ("/" : Str) ++ decT q.den
theorem tl_slash : tl ("/" : Str) = [47] := by rw [tl_ofString]; rfl
theorem split_one {x : Str} (h : 47 ∉ tl x) : (Txt.split x "/").map tl = [tl x] := by
  rw [split_spl x "/" (by rw [tl_slash]; simp) (kind_ok (by decide +kernel)), tl_slash, spl_last1 h]
  rfl
theorem split_two {x y : Str} (h : 47 ∉ tl x) (h2 : 47 ∉ tl y) : Txt.split (x ++ ("/" : Str) ++ y) "/" = [x, y] := by
  refine map_tl_inj ?_
  rw [split_spl _ "/" (by rw [tl_slash]; simp) (kind_ok (by decide +kernel)), tl_append, tl_append, tl_slash, List.append_assoc]
  rw [spl_part1 h, spl_last1 h2]
  simp
theorem spl_ne (S : List Nat) : ∀ (l acc : List Nat) (k : Nat), spl S k acc l ≠ []
  | [], acc, k => by cases k <;> simp [spl]
  | c :: r, acc, 0 => by
    unfold spl
    split
    · simp
    · exact spl_ne S r _ 0
  | c :: r, acc, k + 1 => spl_ne S r acc k
/-- the parts lead back -/
theorem joinL_spl (s : Nat) : ∀ (l acc : List Nat), joinL [s] (spl [s] 0 acc l) = acc ++ l
  | [], acc => by simp [spl, joinL]
  | c :: r, acc => by
    by_cases h : pre [s] (c :: r) = true
    · rw [spl_hit h]
      have hc : c = s := by
        unfold pre at h
        simpa using h
      subst hc
      have ih := joinL_spl c r []
      have hne := spl_ne [c] r [] 0
      rw [show [c].length - 1 = 0 from rfl]
      cases q : spl [c] 0 [] r with
      | nil => exact absurd q hne
      | cons a b =>
        rw [q] at ih
        simp only [joinL] at ih ⊢
        rw [ih]
        simp
    · have h : pre [s] (c :: r) = false := by simpa using h
      rw [spl_miss h, joinL_spl s r (acc ++ [c])]
      simp
end MP
set_option Elab.async false
set_option linter.all false
set_option maxRecDepth 100000
set_option maxHeartbeats 1000000
namespace MP
open PySem PySem.Spec PyProof.Rows L2 SP TL NumText
section
variable {T : Tb} {st : Sto} {z x : Str} {lo hi : Option Int} {i : Int} {j : Nat} {run : Str → List D → MM D}
theorem mSl_str (h : z.length ≤ 1000000) : mSl (.str z) lo hi st = .ok (.str (cutS z lo hi)) st := if_pos h
theorem tl_cut1 (z : Str) : tl (cutS z none (some 1)) = (tl z).take 1 := by
  unfold cutS
  simp only [HT.sIx_none, tl_mk, List.drop_zero, Nat.sub_zero]
  have h1 : HT.sIx z.length z.length (some 1) = min 1 z.length := HT.sIx_nat _ _ 1
  rw [h1, len_tl]
  show (tl z).take _ = _
  cases tl z <;> simp
theorem tl_cut2 (z : Str) : tl (cutS z (some 1) none) = (tl z).drop 1 := by
  unfold cutS
  simp only [HT.sIx_none, tl_mk]
  have h1 : HT.sIx z.length 0 (some 1) = min 1 z.length := HT.sIx_nat _ _ 1
  rw [h1, len_tl]
  show ((tl z).drop _).take _ = _
  cases q : tl z with
  | nil => simp
  | cons a r => simp
theorem tl_minus : tl ("-" : Str) = [45] := by rw [tl_ofString]; rfl
theorem tl_emp : tl ("" : Str) = [] := by rw [tl_ofString]; rfl
theorem tl_zero : tl ("0" : Str) = [48] := by rw [tl_ofString]; rfl
theorem str_iff {x y : Str} : x = y ↔ tl x = tl y := ⟨fun h => by rw [h], ext_tl⟩
theorem tl_figs : tl ("0123456789" : Str) = [48, 49, 50, 51, 52, 53, 54, 55, 56, 57] := by rw [tl_ofString]; rfl
theorem in_figs (c : Nat) : decide (c ∈ tl ("0123456789" : Str)) = isDig c := by
  rw [tl_figs]
  unfold isDig
  rw [← Bool.decide_and]
  refine decide_eq_decide.mpr ?_
  simp
  omega
theorem cIn_sign (c : Nat) (y : Str) : cIn T (.str ⟨#[c]⟩) (.str y) st = .ok (.bl (decide (c ∈ tl y))) st := rfl
theorem cNin_sign (c : Nat) (y : Str) : cNin T (.str ⟨#[c]⟩) (.str y) st = .ok (.bl (!decide (c ∈ tl y))) st := rfl
@[simp] theorem cIn_figs (c : Nat) : cIn T (.str ⟨#[c]⟩) (.str "0123456789") st = .ok (.bl (isDig c)) st := by rw [cIn_sign, in_figs]
@[simp] theorem cNin_figs (c : Nat) : cNin T (.str ⟨#[c]⟩) (.str "0123456789") st = .ok (.bl (!isDig c)) st := by rw [cNin_sign, in_figs]
theorem itSeqT_str (h : z.length ≤ 1000000) : itSeqT (.str z) st = .ok (.fix (charsD z)) st := by unfold itSeqT; simp only [if_pos h]
theorem charsD_eq (z : Str) : charsD z = (tl z).map fun c => .str ⟨#[c]⟩ := rfl
theorem boolsOf_map (bs : List Bool) : boolsOf (bs.map .bl) = some bs := by
  induction bs with
  | nil => rfl
  | cons b bs ih => simp [boolsOf, ih]
theorem b_all_bls (bs : List Bool) : b_all T [.lst (bs.map .bl)] st = .ok (.bl (bs.all id)) st := by
  show allL [.lst (bs.map .bl)] st = _
  unfold allL
  show (match boolsOf (bs.map .bl) with | some bs => Res.ok (D.bl (bs.all id)) st | none => .bad) = _
  rw [boolsOf_map]
theorem b_all_comp {α : Type} (f : α → Bool) (l : List α) : b_all T [.lst (l.map (D.bl ∘ f))] st = .ok (.bl (l.all f)) st := by
  rw [← List.map_map, b_all_bls]
  simp [List.all_map]
def allDig (l : List Nat) : Bool := l.all isDig
theorem b_all_dig (l : List Nat) : b_all T [.lst (l.map (D.bl ∘ isDig))] st = .ok (.bl (allDig l)) st := b_all_comp isDig l
theorem dIx_str0 {c : Nat} {r : List Nat} (h : tl z = c :: r) (hl : z.length ≤ 1000000) : dIxT T (.str z) (.int 0) st = .ok (.str ⟨#[c]⟩) st := by
  show dIx (.str z) (.int 0) st = _
  unfold dIx
  have e : atI z.cps.toList 0 = some c := by
    show atI (tl z) 0 = _
    rw [h]
    unfold atI ixN
    simp
  simp only [e, if_pos hl]
theorem one_eq (c d : Nat) : ((⟨#[c]⟩ : Str) = ⟨#[d]⟩) ↔ c = d := by simp
theorem zero_one : ("0" : Str) = ⟨#[48]⟩ := ext_tl (by rw [tl_zero])
/-- the text's figures -/
def figT (z : Str) : Str := if (tl z).take 1 = [45] then cutS z (some 1) none else z
theorem tl_figT (z : Str) : tl (figT z) = figs (tl z) := by
  unfold figT figs
  split
  · exact tl_cut2 z
  · rfl
theorem figT_len (z : Str) : (figT z).length ≤ z.length := by
  unfold figT
  split
  · exact cutS_length _ _ _
  · exact Nat.le_refl _
theorem m_split_ (T : Tb) (mo : EE) (ma : EA) (sl : Sl) : m_split T mo ma sl st = (mo sl st).bind fun o st => if isStrD o st = true then (ma sl st).bind fun xs => mSplit o xs else .bad := rfl
theorem mSplit_slash (h : z.length ≤ 900000) : mSplit (.str z) [.str "/"] st = .ok (.lst ((Txt.split z "/").map .str)) st := by
  unfold mSplit
  simp only []
  rw [if_pos ⟨by decide +kernel, by omega⟩]
theorem split_ne (z : Str) : Txt.split z "/" ≠ [] := fun h => by
  have := split_spl z "/" (by rw [tl_slash]; simp) (kind_ok (by decide +kernel))
  rw [h] at this
  exact spl_ne _ _ _ _ this.symm
theorem split_back (z : Str) : joinL [47] ((Txt.split z "/").map tl) = tl z := by
  rw [split_spl z "/" (by rw [tl_slash]; simp) (kind_ok (by decide +kernel)), tl_slash, joinL_spl]
  rfl
theorem joinL_len (S : List Nat) : ∀ (ps : List (List Nat)) (p : List Nat), p ∈ ps → p.length ≤ (joinL S ps).length
  | [], _, h => by cases h
  | [q], p, h => by
    have : p = q := by simpa using h
    subst this
    exact Nat.le_refl _
  | q :: r :: s, p, h => by
    rcases List.mem_cons.mp h with rfl | h
    · simp [joinL]
    · have := joinL_len S (r :: s) p h
      simp [joinL]
      omega
theorem split_len {z p : Str} (h : p ∈ Txt.split z "/") : p.length ≤ z.length := by
  rw [len_tl, len_tl, ← split_back z]
  exact joinL_len _ _ _ (List.mem_map_of_mem h)
theorem joinL_count (s : Nat) : ∀ ps : List (List Nat), ps.length ≤ (joinL [s] ps).length + 1
  | [] => by simp
  | [q] => by simp
  | q :: r :: t => by
    have := joinL_count s (r :: t)
    simp [joinL] at this ⊢
    omega
theorem split_count (z : Str) : (Txt.split z "/").length ≤ z.length + 1 := by
  have := joinL_count 47 ((Txt.split z "/").map tl)
  rw [split_back, List.length_map, ← len_tl] at this
  exact this
/-! the words of a text -/
theorem tl_space : tl (" " : Str) = [32] := by rw [tl_ofString]; rfl
theorem mSplit_space (h : z.length ≤ 900000) : mSplit (.str z) [.str " "] st = .ok (.lst ((Txt.split z " ").map .str)) st := by
  unfold mSplit
  simp only []
  rw [if_pos ⟨by decide +kernel, by omega⟩]
theorem words_ne (z : Str) : Txt.split z " " ≠ [] := fun h => by
  have := split_spl z " " (by rw [tl_space]; simp) (kind_ok (by decide +kernel))
  rw [h] at this
  exact spl_ne _ _ _ _ this.symm
theorem words_back (z : Str) : joinL [32] ((Txt.split z " ").map tl) = tl z := by
  rw [split_spl z " " (by rw [tl_space]; simp) (kind_ok (by decide +kernel)), tl_space, joinL_spl]
  rfl
theorem words_len {z p : Str} (h : p ∈ Txt.split z " ") : p.length ≤ z.length := by
  rw [len_tl, len_tl, ← words_back z]
  exact joinL_len _ _ _ (List.mem_map_of_mem h)
theorem words_count (z : Str) : (Txt.split z " ").length ≤ z.length + 1 := by
  have := joinL_count 32 ((Txt.split z " ").map tl)
  rw [words_back, List.length_map, ← len_tl] at this
  exact this
def readQ (z : Str) : Option Rat := match Txt.split z "/" with
  | [p] => if whole (tl p) then some (valI (tl p) : Int) else none
  | [p, r] => if whole (tl p) ∧ whole (tl r) ∧ 2 ≤ valI (tl r) ∧ Nat.gcd (valI (tl p)).natAbs (valI (tl r)).natAbs = 1 then some (qd (valI (tl p)) (valI (tl r))) else none
  | _ => none
abbrev badText (i k : Int) : D := .exc "BadText" [("word", .int k), ("line", .int i)]
theorem cIn_non {xs : List D} (h : xs.all flatD = true) : cIn T .non (.lst xs) st = .ok (.bl (xs.any fun y => eqFlat y .non)) st := by
  unfold cIn inStr
  show (match (if flatD .non = true ∧ xs.all flatD = true then some (inD .non xs) else none) with | some b => Res.ok (D.bl b) st | none => .bad) = _
  rw [if_pos ⟨rfl, h⟩]
  rfl
@[simp] theorem flatD_int (i : Int) : flatD (.int i) = true := rfl
@[simp] theorem flatD_non : flatD .non = true := rfl
@[simp] theorem flatD_str (x : Str) : flatD (.str x) = true := rfl
@[simp] theorem flatD_bl (x : Bool) : flatD (.bl x) = true := rfl
@[simp] theorem eqFlat_int (i : Int) : eqFlat (.int i) .non = false := rfl
@[simp] theorem eqFlat_non : eqFlat .non .non = true := rfl
theorem atI_1 {α : Type} {d e : α} {r : List α} : atI (d :: e :: r) 1 = some e := by
  unfold atI ixN
  rw [if_pos (by decide), if_pos (by simp only [List.length_cons]; omega)]
  rfl
theorem atI_2 {α : Type} {d e f : α} {r : List α} : atI (d :: e :: f :: r) 2 = some f := by
  unfold atI ixN
  rw [if_pos (by decide), if_pos (by simp only [List.length_cons]; omega)]
  rfl
theorem dv_acc : ∀ (l : List Nat) (a : Nat), AllDigits l → l.foldl (fun acc c => acc * 10 + (c - 48)) a < (a + 1) * 10 ^ l.length
  | [], a, _ => by simp
  | c :: r, a, h => by
    have hc := h.head
    have ih := dv_acc r (a * 10 + (c - 48)) h.tail
    rw [List.foldl_cons, List.length_cons, Nat.pow_succ]
    refine Nat.lt_of_lt_of_le ih ?_
    rw [Nat.mul_comm (10 ^ r.length) 10, ← Nat.mul_assoc]
    exact Nat.mul_le_mul_right _ (by omega)
theorem dv_lt (l : List Nat) (h : AllDigits l) : digitsVal l < 10 ^ l.length := by
  have := dv_acc l 0 h
  simpa [digitsVal] using this
theorem val_lt {l : List Nat} (h : whole l) : (valI l).natAbs < 10 ^ l.length := by
  have hd : AllDigits (figs l) := fun c hc => isDig_iff.mp (h.2.1 c hc)
  have h1 := dv_lt _ hd
  have h2 : (figs l).length ≤ l.length := by unfold figs; split <;> simp
  have h3 : 10 ^ (figs l).length ≤ 10 ^ l.length := Nat.pow_le_pow_right (by decide) h2
  unfold valI
  split <;> omega
theorem val_b {x : Str} (h : whole (tl x)) (hl : x.length ≤ 600) : (valI (tl x)).natAbs < 2 ^ 2000 := by
  have h1 := val_lt h
  have h2 : 10 ^ (tl x).length ≤ 10 ^ 600 := Nat.pow_le_pow_right (by decide) (by rw [← len_tl]; exact hl)
  have h3 : (10 : Nat) ^ 600 < 2 ^ 2000 := by decide +kernel
  omega
@[simp] theorem dIx_l0 {d : D} {r : List D} : dIxT T (.lst (d :: r)) (.int 0) st = .ok d st := by
  show dIx (.lst (d :: r)) (.int 0) st = _
  unfold dIx seqOf atI ixN
  simp
@[simp] theorem dIx_l1 {d e : D} {r : List D} : dIxT T (.lst (d :: e :: r)) (.int 1) st = .ok e st := by
  show dIx (.lst (d :: e :: r)) (.int 1) st = _
  have : atI (d :: e :: r) 1 = some e := atI_1
  unfold dIx seqOf
  simp [this]
@[simp] theorem dIx_l2 {d e f : D} {r : List D} : dIxT T (.lst (d :: e :: f :: r)) (.int 2) st = .ok f st := by
  show dIx (.lst (d :: e :: f :: r)) (.int 2) st = _
  have : atI (d :: e :: f :: r) 2 = some f := atI_2
  unfold dIx seqOf
  simp [this]
@[simp] theorem dIx_t0 {d : D} {r : List D} : dIxT T (.tup (d :: r)) (.int 0) st = .ok d st := by
  show dIx (.tup (d :: r)) (.int 0) st = _
  unfold dIx atI ixN
  simp
@[simp] theorem dIx_t1 {d e : D} {r : List D} : dIxT T (.tup (d :: e :: r)) (.int 1) st = .ok e st := by
  show dIx (.tup (d :: e :: r)) (.int 1) st = _
  have : atI (d :: e :: r) 1 = some e := atI_1
  unfold dIx
  simp [this]
theorem qd_int (i : Int) : qd i 1 = i := by rw [qd_eq]; grind
theorem qd_low {a b : Int} (h : 0 < b) (hg : Nat.gcd a.natAbs b.natAbs = 1) : (qd a b).num = a ∧ ((qd a b).den : Int) = b := by
  obtain ⟨k, rfl⟩ : ∃ k : Nat, b = k := ⟨b.toNat, by omega⟩
  have := SP.rat_norm (t := a) (b := k) (by omega)
  have e : qd a k = mkRat a k := mkRat_eq (by omega)
  have hg' : Nat.gcd a.natAbs k = 1 := by simpa using hg
  rw [hg'] at this
  rw [e]
  simpa using this
/-- what reads as an amount is its text -/
theorem readQ_iff {q : Rat} : readQ z = some q ↔ z = amtS q := by
  have hb := split_back z
  constructor
  · intro h
    unfold readQ at h
    generalize Txt.split z "/" = ps at *
    rcases ps with _ | ⟨p, _ | ⟨r, _ | ⟨s, t⟩⟩⟩
    · cases h
    · have hz : z = p := ext_tl (by rw [← hb]; rfl)
      by_cases hw : whole (tl p)
      · simp [hw] at h
        subst h
        unfold amtS
        rw [if_pos (by simp), hz]
        simpa using dec_whole hw
      · simp [hw] at h
    · have hz : z = p ++ ("/" : Str) ++ r := ext_tl (by rw [← hb, tl_append, tl_append, tl_slash]; simp [joinL])
      by_cases hw : whole (tl p) ∧ whole (tl r) ∧ 2 ≤ valI (tl r) ∧ Nat.gcd (valI (tl p)).natAbs (valI (tl r)).natAbs = 1
      · simp only [if_pos hw, Option.some.injEq] at h
        subst h
        obtain ⟨h1, h2, h3, h4⟩ := hw
        have hn := qd_low (by omega) h4
        unfold amtS
        rw [if_neg (by omega), hn.1, hn.2, ← dec_whole h1, ← dec_whole h2]
        exact hz
      · simp only [if_neg hw] at h
        cases h
    · cases h
  · rintro rfl
    unfold readQ amtS
    have hf : ∀ i : Int, 47 ∉ tl (decT i) := fun i => by rw [tl_dec]; exact num_free _ (by omega)
    by_cases h1 : q.den = 1
    · rw [if_pos h1]
      have h3 : Txt.split (decT q.num) "/" = [decT q.num] := map_tl_inj (split_one (hf _))
      rw [h3]
      simp only [whole_dec, if_true, val_dec]
      congr 1
      exact Rat.ext (by simp) (by simp [h1])
    · rw [if_neg h1, split_two (hf _) (hf _)]
      have hd := q.den_nz
      have hr := q.reduced
      have h5 : whole (tl (decT q.num)) ∧ whole (tl (decT q.den)) ∧ 2 ≤ valI (tl (decT q.den)) ∧ Nat.gcd (valI (tl (decT q.num))).natAbs (valI (tl (decT q.den))).natAbs = 1 :=
        ⟨whole_dec _, whole_dec _, by rw [val_dec]; omega, by rw [val_dec, val_dec]; simpa using hr⟩
      simp only []
      rw [if_pos h5, val_dec, val_dec, qd_self]
theorem log_of {a : Nat} (h : a < 2 ^ 1900) : a.log2 < 1920 := by
  by_cases e : a = 0
  · subst e; decide
  · exact (Nat.log2_lt e).mpr (Nat.lt_of_lt_of_le h (Nat.pow_le_pow_right (by decide) (by decide)))
theorem dec_len2 {i : Int} (h : i.natAbs < 2 ^ 1600) : (decT i).length ≤ 483 := by
  have h1 : (2 : Nat) ^ 1600 < 10 ^ 482 := by decide +kernel
  exact dec_len (k := 482) (by decide) (Nat.lt_trans h h1)
theorem amtS_len {q : Rat} (h : Sz 1600 q) : (amtS q).length ≤ 967 := by
  have h1 := dec_len2 h.1
  have h2 := dec_len2 (i := q.den) (by simpa using h.2)
  unfold amtS
  split
  · omega
  · have h3 : ("/" : Str).length = 1 := by decide +kernel
    rw [str_app_len, str_app_len]
    omega
@[simp] theorem b_str_dec {T : Tb} {i : Int} (h : i.natAbs < 2 ^ 1600) : b_str T [.int i] st = .ok (.str (decT i)) st := b_str_int (log_of (Nat.lt_of_lt_of_le h (Nat.pow_le_pow_right (by decide) (by decide))))
theorem mFmt_dec {T : Tb} {i : Int} (h : i.natAbs < 2 ^ 1600) : mFmt T (.int i) st = .ok (.str (decT i)) st := mFmt_int (log_of (Nat.lt_of_lt_of_le h (Nat.pow_le_pow_right (by decide) (by decide))))
@[simp] theorem q_str {q : Rat} (h : Sz 1600 q) : rn (j + 1) "Amount.__str__" [amt q] st = .ok (.str (amtS q)) st := by
  have h1 := dec_len2 h.1
  have h2 := dec_len2 (i := q.den) (by simpa using h.2)
  have h3 : ("/" : Str).length = 1 := by decide +kernel
  have h4 : (q.den : Int).natAbs < 2 ^ 1600 := by simpa using h.2
  have e1 : ∀ st, mFmt (sta (rn j)) (.int q.num) st = .ok (.str (decT q.num)) st := fun st => mFmt_dec h.1
  have e2 : ∀ st, mFmt (sta (rn j)) (.int q.den) st = .ok (.str (decT q.den)) st := fun st => mFmt_dec h4
  have e3 : ∀ st, b_str (sta (rn j)) [.int q.num] st = .ok (.str (decT q.num)) st := fun st => b_str_dec h.1
  rw [e_Amount_str, b_Amount_str]
  unfold amtS
  by_cases hd : q.den = 1
  · simp [hd, e3]
  · have hd2 : ¬ ((q.den : Int) = 1) := by omega
    have l1 : (decT q.num).length ≤ 1000000 := by omega
    have l2 : (decT q.num).length + ("/" : Str).length ≤ 1000000 := by omega
    have l3 : (decT q.num).length + ("/" : Str).length + (decT (q.den : Int)).length ≤ 1000000 := by omega
    simp [hd, hd2, e1, e2, l1, l2, l3]
/-! Amount.total -/
def fsum (a : Rat) (qs : List Rat) : Rat := qs.foldl (· + ·) a
/-- a number as a value -/
inductive NumD : D → Rat → Prop where
  | amt (q : Rat) : NumD (amt q) q
  | int (i : Int) : NumD (.int i) (i : Rat)
theorem q_of_num {d : D} {q : Rat} (h : NumD d q) : rn (j + 3) "Amount.of" [d] st = .ok (amt q) st := by
  cases h with
  | amt q => exact q_of_amt
  | int i => exact q_of_int
theorem total_loop {d0 : D} {bd : SS} {n : Nat} (hb : ∀ (a : Rat) (d : D) (q : Rat), NumD d q → Ok a → Ok q → bd n ⟨[some d0, some (amt a), some d], false⟩ st = .nx ⟨[some d0, some (amt (a + q)), some d], false⟩ st) :
    ∀ (xs : List D) (qs : List Rat) (a : Rat) (w0 : Option D), Paired NumD xs qs → Ok a → (∀ q ∈ qs, Ok q) → (∀ k, Ok (fsum a (qs.take k))) → ∃ w, forL (gN 2) bd xs n ⟨[some d0, some (amt a), w0], false⟩ st = .nx ⟨[some d0, some (amt (fsum a qs)), w], false⟩ st := by
  intro xs
  induction xs with
  | nil =>
    intro qs a w0 h ha hq hk
    cases h
    exact ⟨w0, rfl⟩
  | cons x xs ih =>
    intro qs a w0 h ha hq hk
    cases h with
    | cons h1 h2 =>
      rename_i q qs
      have h3 := hk 1
      obtain ⟨w, e⟩ := ih qs (a + q) (some x) h2 (by simpa [fsum] using h3) (fun y hy => hq y (by simp [hy])) (fun k => by simpa [fsum] using hk (k + 1))
      refine ⟨w, ?_⟩
      rw [forL_cons]
      simp only [gN_, sl_set, List.set_cons_succ, List.set_cons_zero, hb a x q h1 ha (hq q (by simp)), lp_nx, e]
      rfl
end
end MP
set_option Elab.async false
set_option linter.all false
set_option maxRecDepth 100000
set_option maxHeartbeats 1000000
/-! signs of an Amount and a number -/
namespace MP
open PySem PySem.Spec PyProof.Rows L2 SP TL NumText
section
variable {st : Sto} {j : Nat} {p q : Rat} {d : D}
def flo (q : Rat) : Int := q.num.fdiv q.den
theorem n_add (h : NumD d q) (o1 : Ok p) (o2 : Ok q) : bAdd (sta (rn (j + 5))) (amt p) d st = .ok (amt (p + q)) st := by
  cases h <;> simp [o1, o2]
theorem n_radd (h : NumD d q) (o1 : Ok p) (o2 : Ok q) : bAdd (sta (rn (j + 5))) d (amt p) st = .ok (amt (q + p)) st := by
  cases h
  · simp [o1, o2]
  · simp [o1, o2]
    rw [Rat.add_comm]
theorem n_sub (h : NumD d q) (o1 : Ok p) (o2 : Ok q) : bSub (sta (rn (j + 5))) (amt p) d st = .ok (amt (p - q)) st := by
  cases h <;> simp [o1, o2]
theorem n_rsub (h : NumD d q) (o1 : Ok p) (o2 : Ok q) : bSub (sta (rn (j + 5))) d (amt p) st = .ok (amt (q - p)) st := by
  cases h
  · simp [o1, o2]
  · simp [o1, o2]
    rw [Rat.sub_eq_add_neg, Rat.add_comm]
theorem n_mul (h : NumD d q) (o1 : Ok p) (o2 : Ok q) : bMul (sta (rn (j + 5))) (amt p) d st = .ok (amt (p * q)) st := by
  cases h <;> simp [o1, o2]
theorem n_rmul (h : NumD d q) (o1 : Ok p) (o2 : Ok q) : bMul (sta (rn (j + 5))) d (amt p) st = .ok (amt (q * p)) st := by
  cases h
  · simp [o1, o2]
  · simp [o1, o2]
    rw [Rat.mul_comm]
theorem n_per (h : NumD d q) (o1 : Ok p) (o2 : Ok q) (h0 : q ≠ 0) : rn (j + 4) "Amount.per" [amt p, d] st = .ok (amt (p / q)) st := by
  cases h
  · exact q_per o1 o2 h0
  · exact q_per_int o1 o2 (fun e => h0 (by rw [e]; rfl))
theorem n_per0 (h : NumD d 0) : rn (j + 4) "Amount.per" [amt p, d] st = .exc (badNumber d) st := by
  generalize hq : (0 : Rat) = q at h
  cases h with
  | amt q =>
    subst hq
    exact q_per0
  | int i =>
    have : i = 0 := by exact_mod_cast hq.symm
    subst this
    rw [e_Amount_per, b_Amount_per]
    simp
theorem d_div (h : NumD d q) : bDiv (sta (rn j)) (amt p) d st = rn j "Amount.__floordiv__" [amt p, d] st := by cases h <;> simp
theorem d_mod (h : NumD d q) : bMod (sta (rn j)) (amt p) d st = rn j "Amount.__mod__" [amt p, d] st := by cases h <;> simp
theorem n_floor (h : NumD d q) (o1 : Ok p) (o2 : Ok q) (h0 : q ≠ 0) : rn (j + 5) "Amount.__floordiv__" [amt p, d] st = .ok (.int (flo (p / q))) st := by
  have hk := n_per (j := j) (st := st) h o1 o2 h0
  have hn : q.num ≠ 0 := fun e => h0 ((num0 q).mp e)
  have sz : Sz 8000 (p / q) := Sz.div o1 o2 hn
  have hd : Ld ((p / q).den : Int) := ⟨by have := (p / q).den_nz; omega, pow_lt_B2 (n := 8000) (by simpa using sz.2) (by decide)⟩
  rw [e_Amount_floordiv, b_Amount_floordiv]
  simp [hk, bDiv_int hd, flo]
theorem n_floor0 (h : NumD d 0) : rn (j + 5) "Amount.__floordiv__" [amt p, d] st = .exc (badNumber d) st := by
  have hk := n_per0 (j := j) (st := st) (p := p) h
  rw [e_Amount_floordiv, b_Amount_floordiv]
  simp [hk]
theorem n_div (h : NumD d q) (o1 : Ok p) (o2 : Ok q) (h0 : q ≠ 0) : bDiv (sta (rn (j + 5))) (amt p) d st = .ok (.int (flo (p / q))) st := by
  rw [d_div h, n_floor h o1 o2 h0]
theorem n_div0 (h : NumD d 0) : bDiv (sta (rn (j + 5))) (amt p) d st = .exc (badNumber d) st := by
  rw [d_div h, n_floor0 h]
theorem n_modf (h : NumD d q) (o1 : Ok p) (o2 : Ok q) (h0 : q ≠ 0) (o3 : Ok (flo (p / q) : Rat)) (o4 : Ok (q * (flo (p / q) : Rat))) : rn (j + 6) "Amount.__mod__" [amt p, d] st = .ok (amt (p - q * (flo (p / q) : Rat))) st := by
  have hk := n_div (j := j) (st := st) h o1 o2 h0
  have ho := q_of_num (j := j + 2) (st := st) h
  rw [e_Amount_mod, b_Amount_mod]
  simp [hk, ho, o1, o2, o3, o4]
theorem n_modf0 (h : NumD d 0) : rn (j + 6) "Amount.__mod__" [amt p, d] st = .exc (badNumber d) st := by
  have hk := n_div0 (j := j) (st := st) (p := p) h
  have ho := q_of_num (j := j + 2) (st := st) h
  rw [e_Amount_mod, b_Amount_mod]
  simp [hk, ho]
theorem n_mod (h : NumD d q) (o1 : Ok p) (o2 : Ok q) (h0 : q ≠ 0) (o3 : Ok (flo (p / q) : Rat)) (o4 : Ok (q * (flo (p / q) : Rat))) : bMod (sta (rn (j + 6))) (amt p) d st = .ok (amt (p - q * (flo (p / q) : Rat))) st := by
  rw [d_mod h, n_modf h o1 o2 h0 o3 o4]
theorem n_mod0 (h : NumD d 0) : bMod (sta (rn (j + 6))) (amt p) d st = .exc (badNumber d) st := by
  rw [d_mod h, n_modf0 h]
@[simp] theorem q_divisor : rn (j + 1) "divisor_of" [amt p] st = if p = 0 then .exc (badNumber (amt p)) st else .ok (amt p) st := by
  rw [e_divisor_of, b_divisor_of]
  by_cases h : p = 0
  · simp [h, badNumber]
  · have : p.num ≠ 0 := fun e => h ((num0 p).mp e)
    simp [h, this]
theorem n_rdiv (h : NumD d q) (o1 : Ok p) (o2 : Ok q) (h0 : p ≠ 0) : bDiv (sta (rn (j + 6))) d (amt p) st = .ok (.int (flo (q / p))) st := by
  cases h with
  | amt q => exact n_div (.amt p) o2 o1 h0
  | int i =>
    have hk := n_div (j := j) (st := st) (.amt p) o2 o1 h0
    simp
    rw [e_Amount_rfloordiv, b_Amount_rfloordiv]
    simp [h0, hk]
theorem n_rdiv0 (h : NumD d q) : bDiv (sta (rn (j + 6))) d (amt 0) st = .exc (badNumber (amt 0)) st := by
  cases h with
  | amt q => exact n_div0 (.amt 0)
  | int i =>
    simp
    rw [e_Amount_rfloordiv, b_Amount_rfloordiv]
    simp
theorem n_rmod (h : NumD d q) (o1 : Ok p) (o2 : Ok q) (h0 : p ≠ 0) (o3 : Ok (flo (q / p) : Rat)) (o4 : Ok (p * (flo (q / p) : Rat))) : bMod (sta (rn (j + 7))) d (amt p) st = .ok (amt (q - p * (flo (q / p) : Rat))) st := by
  cases h with
  | amt q => exact n_mod (.amt p) o2 o1 h0 o3 o4
  | int i =>
    have hk := n_mod (j := j) (st := st) (.amt p) o2 o1 h0 o3 o4
    simp
    rw [e_Amount_rmod, b_Amount_rmod]
    simp [h0, hk]
theorem n_rmod0 (h : NumD d q) : bMod (sta (rn (j + 7))) d (amt 0) st = .exc (badNumber (amt 0)) st := by
  cases h with
  | amt q => exact n_mod0 (.amt 0)
  | int i =>
    simp
    rw [e_Amount_rmod, b_Amount_rmod]
    simp
end
end MP
set_option Elab.async false
set_option linter.all false
set_option maxRecDepth 100000
set_option maxHeartbeats 1000000
/-! what draws: one shape in all laws -/
namespace MP
open PySem PySem.Spec PyProof.Rows L2 SP
noncomputable def drawM (cA cB cM cC cE cP cN cF cG cH cR cO cS : Int) (T : Tb) : SS := sSeq (sIf (tCmpB (cGt T) (eOp (dIxT T) (eVar 0) (eC (.int 2))) (eC (.int 0))) (sSeq (sSet 5 (eOp (bMod T) (eCallD (b_int T) (aCons (eOp (dIxT T) (eVar 0) (eC (.int 2))) aNil)) (eVar 1))) (sSeq (sAsg (eOp (bDiv T) (eCallD (b_int T) (aCons (eOp (dIxT T) (eVar 0) (eC (.int 2))) aNil)) (eVar 1)) (gSubM T (eVar 0) (eC (.int 2)))) (sRetF (eVar 5)))) sNil) (sSeq (sSet 2 (eOp (dIxT T) (eVar 0) (eC (.int 1)))) (sSeq (sAsg (eOp (bAdd T) (eVar 2) (eC (.int 1))) (gSubM T (eVar 0) (eC (.int 1)))) (sSeq (sSet 3 (eOp (bAdd T) (eOp (bMul T) (eC (.int cA)) (eVar 2)) (eC (.int cB)))) (sSeq (sIf (tCmpB (cNe T) (eOp (dIxT T) (eVar 0) (eC (.int 0))) (eCallD mkLst aNil)) (sSet 3 (eOp (dIxT T) (eOp (dIxT T) (eVar 0) (eC (.int 0))) (eOp (bMod T) (eCallD (b_int T) (aCons (eVar 2) aNil)) (eCallD (b_len T) (aCons (eOp (dIxT T) (eVar 0) (eC (.int 0))) aNil))))) sNil) (sSeq (sIf (tAndM (tCmpB (cLt T) (eVar 2) (eCallD (b_len T) (aCons (eOp (dIxT T) (eVar 0) (eC (.int 0))) aNil))) (tCmpB (cGe T) (eCallD (b_abs T) (aCons (eVar 3) aNil)) (eOp (bPow T) (eC (.int 10)) (eC (.int 18))))) (sSeq (sSet 6 (eOp (bAdd T) (eOp (bMul T) (eC (.int 2)) (eOp (bSub T) (eCallD (b_abs T) (aCons (eVar 3) aNil)) (eOp (bPow T) (eC (.int 10)) (eC (.int 18))))) (eCallD (b_int T) (aCons (eOp (cLt T) (eVar 3) (eC (.int 0))) aNil)))) (sSeq (sAsg (eOp (bDiv T) (eCallD (b_int T) (aCons (eVar 6) aNil)) (eVar 1)) (gSubM T (eVar 0) (eC (.int 2)))) (sRetF (eOp (bMod T) (eCallD (b_int T) (aCons (eVar 6) aNil)) (eVar 1))))) sNil) (sSeq (sSet 4 (eOp (bMod T) (eCallD (b_int T) (aCons (eOp (bPow T) (eOp (bAdd T) (eOp (bAdd T) (eOp (bMod T) (eCallD (b_int T) (aCons (eVar 3) aNil)) (eC (.int cM))) (eOp (bMul T) (eC (.int cC)) (eVar 2))) (eC (.int cE))) (eC (.int cP))) aNil)) (eC (.int cN)))) (sSeq (sSet 4 (eOp (bMod T) (eCallD (b_int T) (aCons (eOp (bPow T) (eOp (bAdd T) (eOp (bAdd T) (eOp (bMul T) (eVar 4) (eOp (bAdd T) (eOp (bMul T) (eC (.int 2)) (eVar 2)) (eC (.int cF)))) (eOp (bMul T) (eOp (bMul T) (eC (.int cG)) (eVar 2)) (eVar 2))) (eC (.int cH))) (eC (.int cR))) aNil)) (eC (.int cO)))) (sRetF (eOp (bMod T) (eCallD (b_int T) (aCons (eOp (bDiv T) (eVar 4) (eC (.int cS))) aNil)) (eVar 1))))))))))
structure DC (cA cB cM cC cE cP cN cF cG cH cR cO cS : Int) : Prop where
  a : 0 ≤ cA ∧ cA < 2 ^ 20
  b : 0 ≤ cB ∧ cB < 2 ^ 20
  m : 0 < cM ∧ cM < 2 ^ 32
  c : 0 ≤ cC ∧ cC < 2 ^ 20
  e : 0 ≤ cE ∧ cE < 2 ^ 20
  p : 0 ≤ cP ∧ cP < 20
  n : 0 < cN ∧ cN < 2 ^ 32
  f : 0 ≤ cF ∧ cF < 2 ^ 20
  g : 0 ≤ cG ∧ cG < 2 ^ 20
  h : 0 ≤ cH ∧ cH < 2 ^ 20
  r : 0 ≤ cR ∧ cR < 20
  o : 0 < cO ∧ cO < 2 ^ 32
  s : 0 < cS ∧ cS < 2 ^ 32
/-- the pen: at most n numbers were drawn -/
def Pen (n : Nat) (o : MO) : Prop := ∃ (cs : List Int) (i : Nat) (l : Int), o = .lst [.lst (cs.map .int), .int i, .int l] ∧ i ≤ n ∧ 0 ≤ l ∧ ∀ c ∈ cs, c.natAbs < 2 ^ 1048577
theorem Pen.le {n m : Nat} {o : MO} (h : Pen n o) (k : n ≤ m) : Pen m o := by
  obtain ⟨cs, i, l, h1, h2, h3⟩ := h
  exact ⟨cs, i, l, h1, by omega, h3⟩
theorem cleanL_ints (m : Nat) (cs : List Int) : cleanL m (cs.map D.int) = true := by
  induction cs with
  | nil => rfl
  | cons c cs ih => simp [cleanL_cons, ih]
theorem Pen.clean {n m : Nat} {o : MO} (h : Pen n o) : o.clean m = true := by
  obtain ⟨cs, i, l, rfl, h2, h3⟩ := h
  simp [MO.clean, cleanL_ints]
theorem L1_of {i : Int} (h : i.natAbs < 2 ^ 1048600) : L1 i := pow_lt_B1 h (by decide)
theorem L1_sm {i : Int} (h1 : -(2 ^ 100) < i) (h2 : i < 2 ^ 100) : L1 i := L1_of (Nat.lt_of_lt_of_le (show i.natAbs < 2 ^ 100 by omega) (Nat.pow_le_pow_right (by decide) (by decide)))
theorem Ld_sm {i : Int} (h1 : 0 < i) (h2 : i < 2 ^ 100) : Ld i := ⟨by omega, pow_lt_B2 (show i.natAbs < 2 ^ 100 by omega) (by decide)⟩
section
variable {T : Tb} {st s : Sto} {n : Nat} {sl : Sl} {a b c d e : D} {i j : Int}
theorem dIx_m0 {xs : List D} : dIxT T (.mref 0) (.int i) (.lst xs :: s) = match atI xs i with | some d => .ok d (.lst xs :: s) | none => .bad := by
  show dIx (.mref 0) (.int i) (.lst xs :: s) = _
  unfold dIx seqOf
  rfl
theorem dIx_m00 : dIxT T (.mref 0) (.int 0) (.lst [a, b, c] :: s) = .ok a (.lst [a, b, c] :: s) := by rw [dIx_m0]; rfl
theorem dIx_m01 : dIxT T (.mref 0) (.int 1) (.lst [a, b, c] :: s) = .ok b (.lst [a, b, c] :: s) := by rw [dIx_m0]; rfl
theorem dIx_m02 : dIxT T (.mref 0) (.int 2) (.lst [a, b, c] :: s) = .ok c (.lst [a, b, c] :: s) := by rw [dIx_m0]; rfl
theorem dIx_lst {xs : List D} : dIxT T (.lst xs) (.int i) st = match atI xs i with | some d => .ok d st | none => .bad := by
  show dIx (.lst xs) (.int i) st = _
  unfold dIx seqOf
  rfl
theorem dIx_tup {xs : List D} : dIxT T (.tup xs) (.int i) st = match atI xs i with | some d => .ok d st | none => .bad := by
  show dIx (.tup xs) (.int i) st = _
  unfold dIx
  rfl
theorem gSub_1 {vs : List (Option D)} {bb : Bool} : gSubM T (eVar 0) (eC (.int 1)) d n ⟨some (.mref 0) :: vs, bb⟩ (.lst [a, b, c] :: s) = .nx ⟨some (.mref 0) :: vs, bb⟩ (.lst [a, d, c] :: s) := rfl
theorem gSub_2 {vs : List (Option D)} {bb : Bool} : gSubM T (eVar 0) (eC (.int 2)) d n ⟨some (.mref 0) :: vs, bb⟩ (.lst [a, b, c] :: s) = .nx ⟨some (.mref 0) :: vs, bb⟩ (.lst [a, b, d] :: s) := rfl
theorem pdL_ints (cs : List Int) : pdL (cs.map D.int) = some (cs.map PyData.int) := by
  induction cs with
  | nil => rfl
  | cons c cs ih => simp [pdL, D.pd, ih]
theorem lay_ints (cs : List Int) : PyData.canLayAll0 (cs.map PyData.int) = true := by
  induction cs with
  | nil => rfl
  | cons c cs ih => simp [PyData.canLayAll0, PyData.canLay0, ih]
theorem dep_ints (cs : List Int) : PyData.depthAll (cs.map PyData.int) = 0 := by
  induction cs with
  | nil => rfl
  | cons c cs ih => simp [PyData.depthAll, PyData.depth, ih]
theorem shaped_ints (cs : List Int) : SeqAt.shaped (.list (cs.map PyData.int)) = true := by
  unfold SeqAt.shaped
  simp [PyData.canLay0, lay_ints, PyData.depth, dep_ints]
theorem cNe_nil {cs : List Int} : cNe T (.lst (cs.map .int)) (.lst []) st = .ok (.bl (!cs.isEmpty)) st := by
  unfold cNe
  rw [orM_r rfl, orM_r rfl, orM_r rfl]
  unfold neD
  have h1 : pdT (.lst (cs.map D.int)) st = some (.list (cs.map PyData.int)) := by
    show D.pd _ = _
    simp [D.pd, pdL_ints]
  have h2 : pdT (.lst []) st = some (.list []) := rfl
  rw [h1, h2]
  have h3 := shaped_ints cs
  have h4 := shaped_ints []
  simp only [h3]
  rw [if_pos ⟨trivial, h4⟩]
  cases cs <;> simp [PyData.eqv, PyData.eqvAll]
theorem atI_mod {cs : List Int} {i : Int} (h : cs ≠ []) (h0 : 0 ≤ i) : ∃ c, c ∈ cs ∧ atI (cs.map D.int) (i.fmod cs.length) = some (.int c) := by
  have hl : 0 < (cs.length : Int) := by have := List.length_pos_iff.mpr h; omega
  have h1 : 0 ≤ i.fmod cs.length := Int.fmod_nonneg_of_pos _ hl
  have h2 : i.fmod cs.length < cs.length := Int.fmod_lt_of_pos _ hl
  obtain ⟨k, hk⟩ : ∃ k : Nat, i.fmod cs.length = k := ⟨(i.fmod cs.length).toNat, by omega⟩
  have hk2 : k < cs.length := by omega
  refine ⟨cs[k], List.getElem_mem hk2, ?_⟩
  unfold atI ixN
  rw [hk, List.length_map, if_pos (by omega), if_pos (by omega)]
  simp [hk2]
theorem pow_nn {a : Int} (h : 0 ≤ a) (k : Nat) : 0 ≤ a ^ k := Int.pow_nonneg h
variable {cA cB cM cC cE cP cN cF cG cH cR cO cS : Int}
theorem draw_wp {P : MO} {m : Int} {Q : D → Sto → Prop} {E : D → Sto → Prop} (hc : DC cA cB cM cC cE cP cN cF cG cH cR cO cS) (hP : Pen n P) (hn : n < 2 ^ 20) (hm : 0 < m) (hm2 : m.natAbs < B2)
    (h : ∀ P' d, Pen (n + 1) P' → 0 ≤ d → d < m → Q (.int d) (P' :: s)) :
    (fin (P :: s) (drawM cA cB cM cC cE cP cN cF cG cH cR cO cS T (s.length + 1) ⟨[some (.mref 0), some (.int m), none, none, none, none, none], false⟩ (P :: s))).wp Q E := by
  obtain ⟨cs, i, l, rfl, hi, hl, hcs⟩ := hP
  obtain ⟨⟨a0, a1⟩, ⟨b0, b1⟩, ⟨m0, m1⟩, ⟨c0, c1⟩, ⟨e0, e1⟩, ⟨p0, p1⟩, ⟨n0, n1⟩, ⟨f0, f1⟩, ⟨g0, g1⟩, ⟨h0, h1⟩, ⟨r0, r1⟩, ⟨o0, o1⟩, ⟨s0, s1⟩⟩ := hc
  have hd : Ld m := ⟨by omega, hm2⟩
  have hm0 : m ≠ 0 := by omega
  have fm : ∀ x : Int, 0 ≤ x.fmod m ∧ x.fmod m < m := fun x => ⟨Int.fmod_nonneg_of_pos _ hm, Int.fmod_lt_of_pos _ hm⟩
  unfold drawM
  simp [dIx_m00, dIx_m01, dIx_m02]
  by_cases hl0 : 0 < l
  · simp [hl0, dIx_m02, gSub_2, bMod_int, hm0, hd]
    exact h _ _ ⟨cs, i, _, rfl, by omega, Int.fdiv_nonneg (by omega) (by omega), hcs⟩ (fm l).1 (fm l).2
  · have ha1 : L1 cA := L1_sm (by omega) (by omega)
    have hi1 : L1 (i : Int) := L1_sm (by omega) (by omega)
    have h2L : L1 2 := L1_sm (by omega) (by omega)
    have h10 : ((10 : Int).natAbs) < 2 ^ 64 := by decide
    simp [hl0, dIx_m01, dIx_m00, gSub_1, bMul_int, ha1, hi1, cNe_nil]
    -- the cell
    have hsm : (2 : Nat) ^ 100 < 2 ^ 1048577 := Nat.pow_lt_pow_right (by decide) (by decide)
    refine wp_finSq (wps_mono (Z' := fun r => ∃ x : Int, x.natAbs < 2 ^ 1048577 ∧ r = .nx ⟨[some (.mref 0), some (.int m), some (.int i), some (.int x), none, none, none], false⟩ (.lst [.lst (cs.map .int), .int (i + 1), .int l] :: s)) ?_ ?_)
    · have hai : 0 ≤ cA * i ∧ cA * i < 2 ^ 40 := by
        refine ⟨Int.mul_nonneg a0 (by omega), ?_⟩
        have : cA * (i : Int) ≤ 2 ^ 20 * i := Int.mul_le_mul_of_nonneg_right (by omega) (by omega)
        omega
      refine wps_ite (fun hcs0 => ?_) (fun hcs0 => ?_)
      · exact ⟨_, by omega, rfl⟩
      · have hl0 : (cs.length : Int) ≠ 0 := by have := List.length_pos_iff.mpr hcs0; omega
        obtain ⟨c, hc1, hc2⟩ := atI_mod (i := i) hcs0 (by omega)
        simp only [bMod_int hl0, toS_ok, dIx_lst, hc2]
        exact ⟨c, hcs c hc1, rfl⟩
    · rintro r ⟨x, hx, rfl⟩
      have hp18 : (if x < 0 then -x else x) = x.natAbs := by split <;> omega
      have e18 : (10 : Int) ^ (18 : Int).toNat = 1000000000000000000 := by decide
      have h10b : bPow T (.int 10) (.int 18) = fun st => .ok (.int 1000000000000000000) st := by
        funext st
        rw [bPow_int ⟨by decide, by decide, by decide⟩, e18]
      simp [dIx_m00, hp18, h10b]
      refine wp_finSq (wps_mono (Z' := fun r => r = .nx ⟨[some (.mref 0), some (.int m), some (.int i), some (.int x), none, none, none], false⟩ (.lst [.lst (cs.map .int), .int (i + 1), .int l] :: s) ∨ ∃ P' d, r = .rt (.int d) (P' :: s) ∧ Pen (n + 1) P' ∧ 0 ≤ d ∧ d < m) ?_ ?_)
      · refine wps_ite (fun hg => ?_) (fun hg => ⟨.inl rfl⟩)
        have hx1 : L1 ((x.natAbs : Int) - 1000000000000000000) := L1_of (Nat.lt_of_le_of_lt (m := 2 ^ 1048577) (by omega) (Nat.pow_lt_pow_right (by decide) (by decide)))
        simp [bMul_int, h2L, hx1, bAdd_int, bDiv_int, hd, gSub_2, bMod_int, hm0]
        exact ⟨_, _, ⟨rfl, rfl⟩, ⟨cs, i + 1, _, rfl, by omega, Int.fdiv_nonneg (by split <;> omega) (by omega), hcs⟩, (fm _).1, (fm _).2⟩
      · rintro r (rfl | ⟨P', d, rfl, hp, hd0, hd1⟩)
        · have q1 : 0 ≤ x.fmod cM ∧ x.fmod cM < cM := ⟨Int.fmod_nonneg_of_pos _ m0, Int.fmod_lt_of_pos _ m0⟩
          have q2 : 0 ≤ cC * i ∧ cC * i < 2 ^ 40 := by
            refine ⟨Int.mul_nonneg c0 (by omega), ?_⟩
            have : cC * (i : Int) ≤ 2 ^ 20 * i := Int.mul_le_mul_of_nonneg_right (by omega) (by omega)
            omega
          have q3 : 0 ≤ cP ∧ cP ≤ 1000000 ∧ (x.fmod cM + cC * i + cE).natAbs < 2 ^ 64 := by omega
          have q4 := L1_sm (i := cC) (by omega) (by omega)
          have hcM : cM ≠ 0 := by omega
          have hcN : cN ≠ 0 := by omega
          have hcO : cO ≠ 0 := by omega
          generalize hmx : ((x.fmod cM + cC * i + cE) ^ cP.toNat).fmod cN = mx
          have q5 : 0 ≤ mx ∧ mx < cN := by rw [← hmx]; exact ⟨Int.fmod_nonneg_of_pos _ n0, Int.fmod_lt_of_pos _ n0⟩
          have q6 := L1_sm (i := mx) (by omega) (by omega)
          have q7 := L1_sm (i := 2 * i + cF) (by omega) (by omega)
          have q8 := L1_sm (i := cG) (by omega) (by omega)
          have q9 : 0 ≤ cG * i ∧ cG * i < 2 ^ 40 := by
            refine ⟨Int.mul_nonneg g0 (by omega), ?_⟩
            have : cG * (i : Int) ≤ 2 ^ 20 * i := Int.mul_le_mul_of_nonneg_right (by omega) (by omega)
            omega
          have r1' := L1_sm (i := cG * i) (by omega) (by omega)
          have r2 : 0 ≤ cG * i * i ∧ cG * i * i < 2 ^ 60 := by
            refine ⟨Int.mul_nonneg q9.1 (by omega), ?_⟩
            have : cG * i * (i : Int) ≤ 2 ^ 40 * i := Int.mul_le_mul_of_nonneg_right (by omega) (by omega)
            omega
          have r3 : 0 ≤ mx * (2 * i + cF) ∧ mx * (2 * i + cF) < 2 ^ 55 := by
            refine ⟨Int.mul_nonneg q5.1 (by omega), ?_⟩
            have h1 : mx * (2 * i + cF) ≤ 2 ^ 32 * (2 * i + cF) := Int.mul_le_mul_of_nonneg_right (by omega) (by omega)
            omega
          have r4 : 0 ≤ cR ∧ cR ≤ 1000000 ∧ (mx * (2 * i + cF) + cG * i * i + cH).natAbs < 2 ^ 64 := by omega
          have hdS : Ld cS := Ld_sm (by omega) (by omega)
          simp only []
          simp only [sSeq_, sSet_, eOp_, eVar_, eC_, eCallD_, aCons_, aNil_, sl_get, List.getElem?_cons_zero, List.getElem?_cons_succ, Res.bind_ok, b_int_int, bMod_int hcM, bMul_int q4 hi1, bAdd_int, bPow_int q3, bMod_int hcN, hmx, toS_ok, sq_nx, sl_set, List.set_cons_zero, List.set_cons_succ, bMul_int h2L hi1, bMul_int q6 q7, bMul_int q8 hi1, bMul_int r1' hi1, bPow_int r4, bMod_int hcO, sRetF_, bDiv_int hdS, bMod_int hm0, frzR_int, fin_rt, cut_cons, wp_ok]
          exact h _ _ ⟨cs, i + 1, l, rfl, by omega, hl, hcs⟩ (fm _).1 (fm _).2
        · simp only [fin_rt, cut_cons, wp_ok]
          exact h P' d hp hd0 hd1
/-- one of some things, in order -/
theorem atI_get {α : Type} {xs : List α} {i : Int} (h0 : 0 ≤ i) (h1 : i < xs.length) : ∃ x, x ∈ xs ∧ atI xs i = some x := by
  obtain ⟨k, rfl⟩ : ∃ k : Nat, i = k := ⟨i.toNat, by omega⟩
  have hk : k < xs.length := by omega
  refine ⟨xs[k], List.getElem_mem hk, ?_⟩
  unfold atI ixN
  rw [if_pos (by omega), if_pos (by omega)]
  simp [hk]
def penM (k : Int) (T : Tb) : SS := sRet (eCallD mkLstM (aCons (eCallD (b_list T) (aCons (eSl (eVar 0) oNone (oSome (eC (.int k)))) aNil)) (aCons (eC (.int 0)) (aCons (eC (.int 0)) aNil))))
theorem pen_new {k : Int} {ns : List Int} (hb : ∀ z ∈ ns, Builtin.Int.intBits z ≤ 1048576) : ∃ P, finK (penM k T 0 ⟨[some (.slst (ns.map .int))], false⟩ []) = .ok (.mref 0) [P] ∧ Pen 0 P := by
  have hc : ∀ lo hi, ∃ cs : List Int, cutD (ns.map .int) lo hi = cs.map .int ∧ ∀ c ∈ cs, c ∈ ns := fun lo hi => by
    refine ⟨(ns.drop (HT.sIx (ns.map D.int).length 0 lo)).take (HT.sIx (ns.map D.int).length (ns.map D.int).length hi - HT.sIx (ns.map D.int).length 0 lo), ?_, fun c h => List.mem_of_mem_drop (List.mem_of_mem_take h)⟩
    unfold cutD
    rw [List.map_take, List.map_drop]
  obtain ⟨cs, e, hm⟩ := hc none (some k)
  have h1 : mSl (.slst (ns.map .int)) none (some k) = fun st => .ok (.lst (cs.map .int)) st := by
    funext st
    show Res.ok (D.lst (cutD _ _ _)) st = _
    rw [e]
  refine ⟨.lst [.lst (cs.map .int), .int 0, .int 0], ?_, cs, 0, 0, rfl, Nat.le_refl _, by decide, fun c h => ?_⟩
  · unfold penM
    simp only [sRet_, eCallD_, aCons_, aNil_, eSl_, eVar_, sl_get, List.getElem?_cons_zero, Res.bind_ok, oNone_, oSome_, eC_, h1]
    rfl
  · have := hb c (hm c h)
    have h2 : c.natAbs < 2 ^ (c.natAbs.log2 + 1) := Nat.lt_log2_self
    refine Nat.lt_of_lt_of_le h2 (Nat.pow_le_pow_right (by decide) ?_)
    unfold Builtin.Int.intBits at this
    split at this
    · rename_i h0; have h0 : c = 0 := by simpa using h0
      subst h0; decide
    · omega
def pickM (T : Tb) : SS := sRetF (eOp (dIxT T) (eVar 1) (eCallD (T.run "_law_draw") (aCons (eVar 0) (aCons (eCallD (b_len T) (aCons (eVar 1) aNil)) aNil))))
theorem pick_wp {P : MO} {xs : List D} {Q : D → Sto → Prop} {E : D → Sto → Prop} (hl : 0 < xs.length) (hl2 : xs.length < 2 ^ 60) (hcl : cleanL (s.length + 1) xs = true)
    (hd : ∀ (Q : D → Sto → Prop) (E : D → Sto → Prop), (∀ P' d, Pen (n + 1) P' → 0 ≤ d → d < (xs.length : Int) → Q (.int d) (P' :: s)) → (T.run "_law_draw" [.mref 0, .int (xs.length : Nat)] (P :: s)).wp Q E)
    (h : ∀ P' x, Pen (n + 1) P' → x ∈ xs → Q x (P' :: s)) :
    (fin (P :: s) (pickM T (s.length + 1) ⟨[some (.mref 0), some (.lst xs)], false⟩ (P :: s))).wp Q E := by
  unfold pickM
  simp only [sRetF_, eOp_, eVar_, sl_get, List.getElem?_cons_zero, List.getElem?_cons_succ, Res.bind_ok, eCallD_, aCons_, aNil_, b_len_lst, toS_bind]
  refine wp_fin (hd _ _ fun P' d hP h0 h1 => ?_)
  obtain ⟨x, hx, ex⟩ := atI_get (xs := xs) h0 h1
  simp only [dIx_lst, ex, toS_ok]
  have hxc : x.clean (s.length + 1) = true := by
    clear ex h hd hl hl2 h1
    induction xs with
    | nil => cases hx
    | cons y ys ih =>
      rw [cleanL_cons] at hcl
      obtain ⟨a1, a2⟩ := band hcl
      rcases List.mem_cons.mp hx with rfl | hx
      · exact a1
      · exact ih a2 hx
  rw [frzR_clean hxc, fin_rt, cut_cons, wp_ok]
  exact h _ _ hP hx
end
end MP
set_option Elab.async false
set_option linter.all false
set_option maxRecDepth 100000
set_option maxHeartbeats 1000000
/-! repr and == of plain data -/
namespace MP
open PySem PySem.Spec PyProof.Rows L2 SP TL NumText
mutual
def D.okd : D → Bool
  | .non => true | .bl _ => true | .int i => decide (i.natAbs.log2 < 1900) | .str x => x.cps.all (· < 0x110000)
  | .tup xs => okdL xs | .lst xs => okdL xs | .slst xs => okdL xs
  | _ => false
def okdL : List D → Bool
  | [] => true
  | d :: ds => d.okd && okdL ds
end
mutual
def D.wt : D → Nat
  | .int i => i.natAbs.log2 + 3 | .str x => 10 * x.length + 2
  | .tup xs => wtL xs + 5 | .lst xs => wtL xs + 5 | .slst xs => wtL xs + 5
  | _ => 5
def wtL : List D → Nat
  | [] => 0
  | d :: ds => d.wt + 2 + wtL ds
end
mutual
def D.dp : D → Nat
  | .tup xs => dpL xs + 1 | .lst xs => dpL xs + 1 | .slst xs => dpL xs + 1
  | _ => 0
def dpL : List D → Nat
  | [] => 0
  | d :: ds => max d.dp (dpL ds)
end
theorem joinS_len (sep : Str) : ∀ ts : List Str, (Str.join sep ts).length ≤ (ts.map (·.length)).sum + ts.length * sep.length
  | [] => by show Str.empty.length ≤ _; exact Nat.zero_le _
  | [x] => by show x.length ≤ _; simp
  | x :: y :: r => by
    have ih := joinS_len sep (y :: r)
    show (x ++ sep ++ Str.join sep (y :: r)).length ≤ _
    rw [str_app_len, str_app_len]
    simp only [List.map_cons, List.sum_cons, List.length_cons, Nat.add_mul, Nat.one_mul] at ih ⊢
    omega
theorem comma_len : (", " : Str).length = 2 := by decide +kernel
theorem textFrom_le : ∀ (ts : List Str) (k : Nat) (acc : Str), (textFrom k acc ts).length ≤ acc.length + (ts.map (·.length)).sum + 2 * ts.length
  | [], k, acc => by show acc.length ≤ _; simp
  | t :: r, k, acc => by
    have ih := textFrom_le r (k + 1) (acc ++ (if k > 0 then ", " else "" : String) ++ t)
    show (textFrom (k + 1) (acc ++ (if k > 0 then ", " else "" : String) ++ t) r).length ≤ _
    rw [str_app_len, str_app_len] at ih
    have h2 : (Str.ofString (if k > 0 then ", " else "" : String)).length ≤ 2 := by
      split <;> decide +kernel
    simp only [List.map_cons, List.sum_cons, List.length_cons]
    omega
structure Shw (d : D) (p : PyData) : Prop where
  pd : d.pd = some p
  sh : p.showable = true
  dp : p.depth = d.dp
  hd : p.hasDict = false
  ln : p.shown.length ≤ d.wt
  ly : p.canLay0 = true
structure ShwL (ds : List D) (ps : List PyData) : Prop where
  pd : pdL ds = some ps
  sh : PyData.showableAll ps = true
  dp : PyData.depthAll ps = dpL ds
  hd : PyData.hasDictAll ps = false
  ln : ((PyData.shownAll ps).map (·.length)).sum + 2 * (PyData.shownAll ps).length ≤ wtL ds
  ly : PyData.canLayAll0 ps = true
theorem ShwL.list {ds : List D} {ps : List PyData} (h : ShwL ds ps) : (listText (PyData.shownAll ps)).length ≤ wtL ds + 5 := by
  show (textFrom 0 "[" (PyData.shownAll ps) ++ ("]" : Str)).length ≤ _
  have := textFrom_le (PyData.shownAll ps) 0 "["
  have h1 : ("[" : Str).length = 1 := by decide +kernel
  have h2 : ("]" : Str).length = 1 := by decide +kernel
  have := h.ln
  rw [str_app_len]
  omega
theorem ShwL.tuple {ds : List D} {ps : List PyData} (h : ShwL ds ps) : (tupleText (PyData.shownAll ps)).length ≤ wtL ds + 5 := by
  show (("(" : Str) ++ Str.join ", " (PyData.shownAll ps) ++ Str.ofString (if (PyData.shownAll ps).length == 1 then ",)" else ")" : String)).length ≤ _
  have := joinS_len ", " (PyData.shownAll ps)
  have h1 : ("(" : Str).length = 1 := by decide +kernel
  have h2 : (Str.ofString (if (PyData.shownAll ps).length == 1 then ",)" else ")" : String)).length ≤ 2 := by split <;> decide +kernel
  have := h.ln
  rw [comma_len] at *
  rw [str_app_len, str_app_len]
  omega
mutual
theorem D.shw : ∀ d : D, d.okd = true → ∃ p, Shw d p
  | .non, _ => ⟨.none, rfl, rfl, rfl, rfl, by decide +kernel, rfl⟩
  | .bl b, _ => ⟨.bool b, rfl, rfl, rfl, rfl, by cases b <;> decide +kernel, rfl⟩
  | .int i, h => by
    have h : i.natAbs.log2 < 1900 := of_decide_eq_true h
    refine ⟨.int i, rfl, decide_eq_true (by omega), rfl, rfl, ?_, rfl⟩
    show (decT i).length ≤ i.natAbs.log2 + 3
    have h1 : i.natAbs < 10 ^ (i.natAbs.log2 + 1) := Nat.lt_of_lt_of_le Nat.lt_log2_self (Nat.pow_le_pow_left (by decide) _)
    have := dec_len (Nat.succ_pos _) h1
    omega
  | .str x, h => by
    have h : x.cps.all (· < 0x110000) = true := h
    refine ⟨.str x, rfl, rfl, rfl, rfl, ?_, h⟩
    refine PySem.StrLaws.reprText_len x fun c hc => ?_
    rw [Array.all_eq_true] at h
    obtain ⟨i, hi, rfl⟩ := List.getElem_of_mem hc
    have := h i (by simpa using hi)
    simp at this
    simp
    omega
  | .tup xs, h => by
    obtain ⟨ps, hp⟩ := okdL_shw xs h
    refine ⟨.tuple ps, ?_, hp.sh, ?_, hp.hd, hp.tuple, hp.ly⟩
    · show (pdL xs).map _ = _
      rw [hp.pd]; rfl
    · show PyData.depthAll ps + 1 = dpL xs + 1
      rw [hp.dp]
  | .lst xs, h => by
    obtain ⟨ps, hp⟩ := okdL_shw xs h
    refine ⟨.list ps, ?_, hp.sh, ?_, hp.hd, hp.list, hp.ly⟩
    · show (pdL xs).map _ = _
      rw [hp.pd]; rfl
    · show PyData.depthAll ps + 1 = dpL xs + 1
      rw [hp.dp]
  | .slst xs, h => by
    obtain ⟨ps, hp⟩ := okdL_shw xs h
    refine ⟨.list ps, ?_, hp.sh, ?_, hp.hd, hp.list, hp.ly⟩
    · show (pdL xs).map _ = _
      rw [hp.pd]; rfl
    · show PyData.depthAll ps + 1 = dpL xs + 1
      rw [hp.dp]
  | .ty _, h => by cases h
  | .glo _, h => by cases h
  | .dic _, h => by cases h
  | .ins _ _, h => by cases h
  | .exc _ _, h => by cases h
  | .mref _, h => by cases h
  | .lam _ _, h => by cases h
theorem okdL_shw : ∀ ds : List D, okdL ds = true → ∃ ps, ShwL ds ps
  | [], _ => ⟨[], rfl, rfl, rfl, rfl, Nat.le_refl _, rfl⟩
  | d :: ds, h => by
    obtain ⟨h1, h2⟩ := band h
    obtain ⟨p, hp⟩ := D.shw d h1
    obtain ⟨ps, hps⟩ := okdL_shw ds h2
    refine ⟨p :: ps, ?_, ?_, ?_, ?_, ?_, ?_⟩
    · show (match d.pd, pdL ds with | some a, some b => some (a :: b) | _, _ => none) = _
      rw [hp.pd, hps.pd]
    · show (p.showable && PyData.showableAll ps) = true
      rw [hp.sh, hps.sh]; rfl
    · show max p.depth (PyData.depthAll ps) = max d.dp (dpL ds)
      rw [hp.dp, hps.dp]
    · show (p.hasDict || PyData.hasDictAll ps) = false
      rw [hp.hd, hps.hd]; rfl
    · show (((p.shown :: PyData.shownAll ps).map (·.length)).sum + 2 * (p.shown :: PyData.shownAll ps).length) ≤ d.wt + 2 + wtL ds
      have := hp.ln
      have := hps.ln
      simp only [List.map_cons, List.sum_cons, List.length_cons]
      omega
    · show (p.canLay0 && PyData.canLayAll0 ps) = true
      rw [hp.ly, hps.ly]; rfl
end
/-- the text and the data of a tree -/
def reprD (d : D) : Str := (d.pd.getD .none).shown
def eqvD (a b : D) : Bool := PyData.eqv (a.pd.getD .none) (b.pd.getD .none)
section
variable {T : Tb} {st : Sto} {xs ys : List D}
theorem b_repr_lst (h : okdL xs = true) (h1 : dpL xs ≤ 50) (h2 : wtL xs ≤ 900000) : b_repr T [.lst xs] st = .ok (.str (reprD (.lst xs))) st := by
  obtain ⟨p, hp⟩ := D.shw (.lst xs) h
  have e : pdT (.lst xs) st = some p := hp.pd
  show (match pdT (.lst xs) st with | some p => if p.showable = true ∧ p.depth ≤ 60 ∧ p.hasDict = false ∧ p.shown.length ≤ 1000000 then Res.ok (D.str p.shown) st else .bad | none => .bad) = _
  rw [e]
  have hd : p.depth = dpL xs + 1 := hp.dp
  have hl : p.shown.length ≤ wtL xs + 5 := hp.ln
  simp only []
  rw [if_pos ⟨hp.sh, by omega, hp.hd, by omega⟩]
  unfold reprD
  rw [hp.pd]
  rfl
theorem b_repr_tup (h : okdL xs = true) (h1 : dpL xs ≤ 50) (h2 : wtL xs ≤ 900000) : b_repr T [.tup xs] st = .ok (.str (reprD (.tup xs))) st := by
  obtain ⟨p, hp⟩ := D.shw (.tup xs) h
  have e : pdT (.tup xs) st = some p := hp.pd
  show (match pdT (.tup xs) st with | some p => if p.showable = true ∧ p.depth ≤ 60 ∧ p.hasDict = false ∧ p.shown.length ≤ 1000000 then Res.ok (D.str p.shown) st else .bad | none => .bad) = _
  rw [e]
  have hd : p.depth = dpL xs + 1 := hp.dp
  have hl : p.shown.length ≤ wtL xs + 5 := hp.ln
  simp only []
  rw [if_pos ⟨hp.sh, by omega, hp.hd, by omega⟩]
  unfold reprD
  rw [hp.pd]
  rfl
theorem eqD_ok {a b : D} {pa pb : PyData} (h1 : Shw a pa) (h2 : Shw b pb) (d1 : a.dp ≤ 60) (d2 : b.dp ≤ 60) (e1 : pdT a st = a.pd) (e2 : pdT b st = b.pd) : eqD a b st = .ok (.bl (eqvD a b)) st ∧ neD a b st = .ok (.bl (!eqvD a b)) st := by
  have s1 : SeqAt.shaped pa = true := by
    unfold SeqAt.shaped
    rw [h1.ly, decide_eq_true (by rw [h1.dp]; omega)]; rfl
  have s2 : SeqAt.shaped pb = true := by
    unfold SeqAt.shaped
    rw [h2.ly, decide_eq_true (by rw [h2.dp]; omega)]; rfl
  unfold eqD neD eqvD
  rw [e1, e2, h1.pd, h2.pd]
  simp only []
  rw [if_pos ⟨s1, s2⟩, if_pos ⟨s1, s2⟩]
  exact ⟨rfl, rfl⟩
theorem cEq_lst (h1 : okdL xs = true) (h2 : okdL ys = true) (d1 : dpL xs ≤ 50) (d2 : dpL ys ≤ 50) : cEq T (.lst xs) (.lst ys) st = .ok (.bl (eqvD (.lst xs) (.lst ys))) st := by
  obtain ⟨p, hp⟩ := D.shw (.lst xs) h1
  obtain ⟨q, hq⟩ := D.shw (.lst ys) h2
  unfold cEq
  rw [orM_r rfl, orM_r rfl, orM_r rfl]
  exact (eqD_ok hp hq (show dpL xs + 1 ≤ 60 by omega) (show dpL ys + 1 ≤ 60 by omega) rfl rfl).1
theorem cNe_lst (h1 : okdL xs = true) (h2 : okdL ys = true) (d1 : dpL xs ≤ 50) (d2 : dpL ys ≤ 50) : cNe T (.lst xs) (.lst ys) st = .ok (.bl (!eqvD (.lst xs) (.lst ys))) st := by
  obtain ⟨p, hp⟩ := D.shw (.lst xs) h1
  obtain ⟨q, hq⟩ := D.shw (.lst ys) h2
  unfold cNe
  rw [orM_r rfl, orM_r rfl, orM_r rfl]
  exact (eqD_ok hp hq (show dpL xs + 1 ≤ 60 by omega) (show dpL ys + 1 ≤ 60 by omega) rfl rfl).2
theorem cEq_tup (h1 : okdL xs = true) (h2 : okdL ys = true) (d1 : dpL xs ≤ 50) (d2 : dpL ys ≤ 50) : cEq T (.tup xs) (.tup ys) st = .ok (.bl (eqvD (.tup xs) (.tup ys))) st := by
  obtain ⟨p, hp⟩ := D.shw (.tup xs) h1
  obtain ⟨q, hq⟩ := D.shw (.tup ys) h2
  unfold cEq
  rw [orM_r rfl, orM_r rfl, orM_r rfl]
  exact (eqD_ok hp hq (show dpL xs + 1 ≤ 60 by omega) (show dpL ys + 1 ≤ 60 by omega) rfl rfl).1
theorem cNe_tup (h1 : okdL xs = true) (h2 : okdL ys = true) (d1 : dpL xs ≤ 50) (d2 : dpL ys ≤ 50) : cNe T (.tup xs) (.tup ys) st = .ok (.bl (!eqvD (.tup xs) (.tup ys))) st := by
  obtain ⟨p, hp⟩ := D.shw (.tup xs) h1
  obtain ⟨q, hq⟩ := D.shw (.tup ys) h2
  unfold cNe
  rw [orM_r rfl, orM_r rfl, orM_r rfl]
  exact (eqD_ok hp hq (show dpL xs + 1 ≤ 60 by omega) (show dpL ys + 1 ≤ 60 by omega) rfl rfl).2
end
mutual
theorem eqv_refl : ∀ p : PyData, p.hasDict = false → PyData.eqv p p = true
  | .none, _ => rfl
  | .bool b, _ => by simp [PyData.eqv]
  | .int i, _ => by simp [PyData.eqv]
  | .str x, _ => by simp [PyData.eqv]
  | .list xs, h => by simpa [PyData.eqv] using eqvAll_refl xs (by simpa [PyData.hasDict] using h)
  | .tuple xs, h => by simpa [PyData.eqv] using eqvAll_refl xs (by simpa [PyData.hasDict] using h)
  | .dict _, h => by cases h
theorem eqvAll_refl : ∀ ps : List PyData, PyData.hasDictAll ps = false → PyData.eqvAll ps ps = true
  | [], _ => rfl
  | p :: ps, h => by
    simp only [PyData.hasDictAll, Bool.or_eq_false_iff] at h
    simp [PyData.eqvAll, eqv_refl p h.1, eqvAll_refl ps h.2]
end
theorem eqvD_refl {d : D} (h : d.okd = true) : eqvD d d = true := by
  obtain ⟨p, hp⟩ := D.shw d h
  unfold eqvD
  rw [hp.pd]
  exact eqv_refl p hp.hd
theorem eqvD_nil {xs : List D} (h : okdL xs = true) : eqvD (.lst xs) (.lst []) = xs.isEmpty := by
  obtain ⟨p, hp⟩ := okdL_shw xs h
  have e : D.pd (.lst xs) = some (.list p) := by
    show (pdL xs).map _ = _
    rw [hp.pd]; rfl
  unfold eqvD
  rw [e]
  cases xs with
  | nil => cases hp.pd; rfl
  | cons d ds =>
    have := hp.pd
    have h3 : ∃ a b, p = a :: b := by
      unfold pdL at this
      split at this
      · cases this; exact ⟨_, _, rfl⟩
      · cases this
    obtain ⟨a, b, rfl⟩ := h3
    rfl
@[simp] theorem okdL_nil : okdL [] = true := rfl
@[simp] theorem okdL_cons (d : D) (ds : List D) : okdL (d :: ds) = (d.okd && okdL ds) := rfl
@[simp] theorem okd_bl (b : Bool) : (D.bl b).okd = true := rfl
@[simp] theorem okd_non : D.non.okd = true := rfl
@[simp] theorem okd_tup (xs : List D) : (D.tup xs).okd = okdL xs := rfl
@[simp] theorem okd_lst (xs : List D) : (D.lst xs).okd = okdL xs := rfl
@[simp] theorem dpL_nil : dpL [] = 0 := rfl
@[simp] theorem dpL_cons (d : D) (ds : List D) : dpL (d :: ds) = max d.dp (dpL ds) := rfl
@[simp] theorem dp_bl (b : Bool) : (D.bl b).dp = 0 := rfl
@[simp] theorem dp_non : D.non.dp = 0 := rfl
@[simp] theorem dp_int (b : Int) : (D.int b).dp = 0 := rfl
@[simp] theorem dp_str (b : Str) : (D.str b).dp = 0 := rfl
@[simp] theorem dp_tup (xs : List D) : (D.tup xs).dp = dpL xs + 1 := rfl
@[simp] theorem dp_lst (xs : List D) : (D.lst xs).dp = dpL xs + 1 := rfl
@[simp] theorem wtL_nil : wtL [] = 0 := rfl
@[simp] theorem wtL_cons (d : D) (ds : List D) : wtL (d :: ds) = d.wt + 2 + wtL ds := rfl
@[simp] theorem wt_bl (b : Bool) : (D.bl b).wt = 5 := rfl
@[simp] theorem wt_non : D.non.wt = 5 := rfl
@[simp] theorem wt_int (i : Int) : (D.int i).wt = i.natAbs.log2 + 3 := rfl
@[simp] theorem wt_str (x : Str) : (D.str x).wt = 10 * x.length + 2 := rfl
@[simp] theorem wt_tup (xs : List D) : (D.tup xs).wt = wtL xs + 5 := rfl
@[simp] theorem wt_lst (xs : List D) : (D.lst xs).wt = wtL xs + 5 := rfl
theorem okd_int {i : Int} (h : i.natAbs < 2 ^ 1800) : (D.int i).okd = true := by
  refine decide_eq_true ?_
  by_cases e : i.natAbs = 0
  · rw [e]; decide
  · exact (Nat.log2_lt e).mpr (Nat.lt_of_lt_of_le h (Nat.pow_le_pow_right (by decide) (by decide)))
end MP
set_option Elab.async false
set_option linter.all false
set_option maxRecDepth 100000
set_option maxHeartbeats 1000000
/-! sizes of ints, fractions of ints -/
namespace MP
open PySem PySem.Spec PyProof.Rows L2 SP TL NumText
section
variable {k m : Nat} {a b c d t u v w : Int}
def Sm (k : Nat) (i : Int) : Prop := i.natAbs < 2 ^ k
theorem Sm.le (h : Sm k a) (e : k ≤ m) : Sm m a := Nat.lt_of_lt_of_le h (Nat.pow_le_pow_right (by decide) e)
theorem Sm.mul (h : Sm k a) (h2 : Sm m b) : Sm (k + m) (a * b) := by
  unfold Sm
  rw [Int.natAbs_mul]
  exact pow_mul_lt h h2
theorem Sm.neg (h : Sm k a) : Sm k (-a) := by unfold Sm; rw [Int.natAbs_neg]; exact h
theorem Sm.add (h : Sm k a) (h2 : Sm k b) : Sm (k + 1) (a + b) := by
  unfold Sm at *
  have := Int.natAbs_add_le a b
  rw [Nat.pow_succ]
  omega
theorem Sm.sub (h : Sm k a) (h2 : Sm k b) : Sm (k + 1) (a - b) := by rw [Int.sub_eq_add_neg]; exact h.add h2.neg
theorem Sm.l1 (h : Sm k a) (e : k ≤ 1048600 := by decide) : L1 a := L1_of (Nat.lt_of_lt_of_le h (Nat.pow_le_pow_right (by decide) e))
theorem Sm.ld (h : Sm k a) (h0 : a ≠ 0) (e : k ≤ 9000 := by decide) : Ld a := ⟨h0, pow_lt_B2 h e⟩
theorem Sm.okd (h : Sm k a) (e : k ≤ 1800 := by decide) : (D.int a).okd = true := okd_int (h.le e)
theorem Sm.fdiv (h : Sm k a) : Sm k (a.fdiv b) := Nat.lt_of_le_of_lt (Int.natAbs_fdiv_le_natAbs a b) h
theorem Sm.qd (h : Sm k a) (h2 : Sm k b) (h0 : b ≠ 0) : Sz k (qd a b) := qd_sz h0 h h2
theorem Sm.okr (h : Sm k a) (e : k ≤ 4000 := by decide) : Ok (a : Rat) := ok_int (h.le e)
theorem cast_nz (h : a ≠ 0) : (a : Rat) ≠ 0 := by exact_mod_cast h
theorem qd_addx (hu : u ≠ 0) (hw : w ≠ 0) : qd t u + qd v w = qd (t * w + v * u) (u * w) := by
  have h1 := cast_nz hu; have h2 := cast_nz hw
  rw [qd_eq, qd_eq, qd_eq, Rat.intCast_add, Rat.intCast_mul, Rat.intCast_mul, Rat.intCast_mul]
  grind
theorem qd_subx (hu : u ≠ 0) (hw : w ≠ 0) : qd t u - qd v w = qd (t * w - v * u) (u * w) := by
  have h1 := cast_nz hu; have h2 := cast_nz hw
  rw [qd_eq, qd_eq, qd_eq, Rat.intCast_sub, Rat.intCast_mul, Rat.intCast_mul, Rat.intCast_mul]
  grind
theorem qd_mulx (hu : u ≠ 0) (hw : w ≠ 0) : qd t u * qd v w = qd (t * v) (u * w) := by
  have h1 := cast_nz hu; have h2 := cast_nz hw
  rw [qd_eq, qd_eq, qd_eq, Rat.intCast_mul, Rat.intCast_mul]
  grind
theorem qd_divx (hu : u ≠ 0) (hv : v ≠ 0) (hw : w ≠ 0) : qd t u / qd v w = qd (t * w) (u * v) := by
  have h1 := cast_nz hu; have h2 := cast_nz hw; have h3 := cast_nz hv
  rw [qd_eq, qd_eq, qd_eq, Rat.intCast_mul, Rat.intCast_mul]
  grind
theorem qd_restx (hu : u ≠ 0) (hw : w ≠ 0) : qd t u - qd v w * (a : Rat) = qd (t * w - a * v * u) (u * w) := by
  have h1 := cast_nz hu; have h2 := cast_nz hw
  rw [qd_eq, qd_eq, qd_eq, Rat.intCast_sub, Rat.intCast_mul, Rat.intCast_mul, Rat.intCast_mul, Rat.intCast_mul]
  grind
theorem qd_negx : -qd t u = qd (-t) u := by
  rw [qd_eq, qd_eq, Rat.intCast_neg]
  grind
theorem qd_nz (hu : u ≠ 0) : qd t u = 0 ↔ t = 0 := by
  have h1 := cast_nz hu
  rw [qd_eq]
  constructor
  · intro h
    have : (t : Rat) = 0 := by
      have e : (t : Rat) = (t : Rat) / u * u := by grind
      rw [h] at e
      grind
    exact_mod_cast this
  · intro h
    rw [h]
    grind
theorem qd_times (hu : u ≠ 0) (ha : a ≠ 0) : qd (t * a) (u * a) = qd t u := by
  have h1 := cast_nz hu; have h2 := cast_nz ha
  rw [qd_eq, qd_eq, Rat.intCast_mul, Rat.intCast_mul]
  grind
theorem flo_qd (hb : b ≠ 0) : flo (qd a b) = a.fdiv b := by
  obtain ⟨e1, e2⟩ := SP.amount_init (t := a) hb
  have hg : (0 : Int) < (Nat.gcd a.natAbs b.natAbs : Int) := by
    have : 0 < Nat.gcd a.natAbs b.natAbs := Nat.gcd_pos_of_pos_right _ (by omega)
    omega
  have d1 : (Nat.gcd a.natAbs b.natAbs : Int) ∣ a := Int.ofNat_dvd_left.mpr (Nat.gcd_dvd_left _ _)
  have d2 : (Nat.gcd a.natAbs b.natAbs : Int) ∣ b := Int.ofNat_dvd_left.mpr (Nat.gcd_dvd_right _ _)
  revert e1 e2 hg d1 d2
  generalize (Nat.gcd a.natAbs b.natAbs : Int) = g
  intro e1 e2 hg d1 d2
  unfold flo qd
  rw [← e1, ← e2]
  split
  · have e : ∀ x : Int, x.fdiv (-g) = (-x).fdiv g := fun x => by
      have := Int.neg_fdiv_neg x (-g)
      rw [Int.neg_neg] at this
      exact this.symm
    rw [e, e]
    have h1 := Int.fdiv_mul_cancel (Int.dvd_neg.mpr d1)
    have h2 := Int.fdiv_mul_cancel (Int.dvd_neg.mpr d2)
    rw [← Int.neg_fdiv_neg a b, ← Int.mul_fdiv_mul_of_pos_left (-a |>.fdiv g) (-b |>.fdiv g) hg, h1, h2]
  · have h1 := Int.fdiv_mul_cancel d1
    have h2 := Int.fdiv_mul_cancel d2
    rw [← Int.mul_fdiv_mul_of_pos_left (a.fdiv g) (b.fdiv g) hg, h1, h2]
theorem low_num (hb : b ≠ 0) : (if 0 < b then (a.fdiv (Nat.gcd a.natAbs b.natAbs : Int)) else (-a).fdiv (Nat.gcd a.natAbs b.natAbs : Int)) = (qd a b).num := by
  obtain ⟨e1, e2⟩ := SP.amount_init (t := a) hb
  unfold qd
  rw [← e1]
  by_cases h : 0 < b
  · rw [if_pos h, if_neg (by omega)]
  · rw [if_neg h, if_pos (by omega)]
    have := Int.neg_fdiv_neg a (-(Nat.gcd a.natAbs b.natAbs : Int))
    rw [Int.neg_neg] at this
    exact this
theorem low_den (hb : b ≠ 0) : (if 0 < b then (b.fdiv (Nat.gcd a.natAbs b.natAbs : Int)) else (-b).fdiv (Nat.gcd a.natAbs b.natAbs : Int)) = ((qd a b).den : Int) := by
  obtain ⟨e1, e2⟩ := SP.amount_init (t := a) hb
  unfold qd
  rw [← e2]
  by_cases h : 0 < b
  · rw [if_pos h, if_neg (by omega)]
  · rw [if_neg h, if_pos (by omega)]
    have := Int.neg_fdiv_neg b (-(Nat.gcd a.natAbs b.natAbs : Int))
    rw [Int.neg_neg] at this
    exact this
end
end MP
set_option Elab.async false
set_option linter.all false
set_option maxRecDepth 100000
set_option maxHeartbeats 1000000
namespace MP
open PySem PySem.Spec PyProof.Rows L2 SP
section
variable {j n : Nat} {s : Sto} {P : MO} {Q : D → Sto → Prop} {E : D → Sto → Prop}
theorem dc : DC 31186 228 2147483497 52306 320 5 2147483629 122 61210 166 3 2147483563 32 := ⟨by decide, by decide, by decide, by decide, by decide, by decide, by decide, by decide, by decide, by decide, by decide, by decide, by decide⟩
theorem d_draw {m : Int} (hP : Pen n P) (h : ∀ P' d, Pen (n + 1) P' → 0 ≤ d → d < m → Q (.int d) (P' :: s)) (hm : 0 < m := by first | decide | omega) (hm2 : m.natAbs < 2 ^ 300 := by first | decide | omega) (hn : n < 2 ^ 20 := by omega) : (rn (j + 1) "_law_draw" [.mref 0, .int m] (P :: s)).wp Q E := by
  rw [e_law_draw]
  exact draw_wp dc hP hn hm (pow_lt_B2 hm2 (by decide)) h
theorem d_pick {xs : List D} (hP : Pen n P) (h : ∀ P' x, Pen (n + 1) P' → x ∈ xs → Q x (P' :: s)) (hl : 0 < xs.length := by simp) (hl2 : xs.length < 2 ^ 60 := by simp) (hcl : cleanL (s.length + 1) xs = true := by simp) (hn : n < 2 ^ 20 := by omega) : (rn (j + 2) "_law_pick" [.mref 0, .lst xs] (P :: s)).wp Q E := by
  rw [e_law_pick]
  exact pick_wp hl hl2 hcl (fun Q E h2 => d_draw hP h2 (by omega) (by have := Nat.pow_lt_pow_right (show 1 < 2 by decide) (show 60 < 300 by decide); omega) hn) h
theorem d_pen {ns : List Int} (hb : ∀ z ∈ ns, Builtin.Int.intBits z ≤ 1048576) : ∃ P, rn (j + 1) "_law_pen" [.slst (ns.map .int)] [] = .ok (.mref 0) [P] ∧ Pen 0 P := by
  rw [e_law_pen]
  exact pen_new (k := 63) hb
end
end MP
set_option Elab.async false
set_option linter.all false
set_option maxRecDepth 100000
set_option maxHeartbeats 1000000
namespace MP
open PySem PySem.Spec PyProof.Rows L2 SP
/-! ### holes, keywords at a class call -/
section
variable {T : Tb} {sl : Sl} {sto : Sto} {ask : MM D} {v : List (Option D)} {m : EE} {hb : MM D → SS} {c : Str} {ks : List Str} {ma mk : EA}
@[simp] theorem eAsk_ : eAsk ask ⟨v, true⟩ sto = ask sto := rfl
theorem eHole_ (n : Nat) : eHole n hb m sl sto = fin sto (hb (fun s => m ⟨sl.v, false⟩ s) sto.length ⟨List.replicate n none, true⟩ sto) := rfl
theorem eHole_2 : eHole 2 hb m sl sto = fin sto (hb (fun s => m ⟨sl.v, false⟩ s) sto.length ⟨[none, none], true⟩ sto) := rfl
theorem eHole_3 : eHole 3 hb m sl sto = fin sto (hb (fun s => m ⟨sl.v, false⟩ s) sto.length ⟨[none, none, none], true⟩ sto) := rfl
theorem eHole_4 : eHole 4 hb m sl sto = fin sto (hb (fun s => m ⟨sl.v, false⟩ s) sto.length ⟨[none, none, none, none], true⟩ sto) := rfl
theorem eHole_5 : eHole 5 hb m sl sto = fin sto (hb (fun s => m ⟨sl.v, false⟩ s) sto.length ⟨[none, none, none, none, none], true⟩ sto) := rfl
@[simp] theorem eMakeK_ : eMakeK T c ks ma mk sl sto = (ma sl sto).bind fun ds st => (mk sl st).bind fun es st => mkIK T c ks ds es st := rfl
@[simp] theorem clean_dic0 {n : Nat} : (D.dic []).clean n = true := rfl
end
end MP
set_option Elab.async false
set_option linter.all false
set_option maxRecDepth 100000
set_option maxHeartbeats 1000000
/-! == and repr of plain data, by simp -/
namespace MP
open PySem PySem.Spec PyProof.Rows L2 SP TL NumText
def eqL : List D → List D → Bool
  | [], [] => true
  | a :: as, b :: bs => eqvD a b && eqL as bs
  | _, _ => false
theorem eqL_pd : ∀ {xs ys : List D} {ps qs : List PyData}, pdL xs = some ps → pdL ys = some qs → PyData.eqvAll ps qs = eqL xs ys
  | [], [], _, _, h1, h2 => by cases h1; cases h2; rfl
  | [], d :: ds, _, _, h1, h2 => by
    cases h1
    unfold pdL at h2
    split at h2
    · cases h2; rfl
    · cases h2
  | d :: ds, [], _, _, h1, h2 => by
    cases h2
    unfold pdL at h1
    split at h1
    · cases h1; rfl
    · cases h1
  | a :: as, b :: bs, _, _, h1, h2 => by
    unfold pdL at h1 h2
    split at h1
    · rename_i p ps e1 e2
      split at h2
      · rename_i q qs e3 e4
        cases h1; cases h2
        show (PyData.eqv p q && PyData.eqvAll ps qs) = (eqvD a b && eqL as bs)
        rw [eqL_pd e2 e4]
        unfold eqvD
        rw [e1, e3]
        rfl
      · cases h2
    · cases h1
section
variable {T : Tb} {st s : Sto} {xs ys : List D} {P : MO} {a b : Bool} {i j : Int} {x y : Str}
@[simp] theorem eqvD_lst (h1 : okdL xs = true) (h2 : okdL ys = true) : eqvD (.lst xs) (.lst ys) = eqL xs ys := by
  obtain ⟨ps, hp⟩ := okdL_shw xs h1
  obtain ⟨qs, hq⟩ := okdL_shw ys h2
  have e1 : D.pd (.lst xs) = some (.list ps) := by show (pdL xs).map _ = _; rw [hp.pd]; rfl
  have e2 : D.pd (.lst ys) = some (.list qs) := by show (pdL ys).map _ = _; rw [hq.pd]; rfl
  unfold eqvD
  rw [e1, e2, ← eqL_pd hp.pd hq.pd]
  simp [PyData.eqv]
@[simp] theorem eqvD_tup (h1 : okdL xs = true) (h2 : okdL ys = true) : eqvD (.tup xs) (.tup ys) = eqL xs ys := by
  obtain ⟨ps, hp⟩ := okdL_shw xs h1
  obtain ⟨qs, hq⟩ := okdL_shw ys h2
  have e1 : D.pd (.tup xs) = some (.tuple ps) := by show (pdL xs).map _ = _; rw [hp.pd]; rfl
  have e2 : D.pd (.tup ys) = some (.tuple qs) := by show (pdL ys).map _ = _; rw [hq.pd]; rfl
  unfold eqvD
  rw [e1, e2, ← eqL_pd hp.pd hq.pd]
  simp [PyData.eqv]
@[simp] theorem eqL_nil : eqL [] [] = true := rfl
@[simp] theorem eqL_cons {a b : D} {as bs : List D} : eqL (a :: as) (b :: bs) = (eqvD a b && eqL as bs) := rfl
@[simp] theorem eqL_nc {b : D} {bs : List D} : eqL [] (b :: bs) = false := rfl
@[simp] theorem eqL_cn {b : D} {bs : List D} : eqL (b :: bs) [] = false := rfl
@[simp] theorem eqvD_int : eqvD (.int i) (.int j) = decide (i = j) := by simp [eqvD, D.pd, PyData.eqv]; rfl
@[simp] theorem eqvD_bl : eqvD (.bl a) (.bl b) = decide (a = b) := by cases a <;> cases b <;> rfl
@[simp] theorem eqvD_str : eqvD (.str x) (.str y) = decide (x = y) := by
  simp only [eqvD, D.pd, PyData.eqv, Option.getD_some]
  by_cases h : x = y
  · simp [h]
  · simp [h]
@[simp] theorem eqvD_non : eqvD .non .non = true := rfl
@[simp] theorem eqvD_non_int : eqvD .non (.int j) = false := rfl
@[simp] theorem eqvD_int_non : eqvD (.int j) .non = false := rfl
@[simp] theorem eqvD_non_str : eqvD .non (.str x) = false := rfl
@[simp] theorem eqvD_str_non : eqvD (.str x) .non = false := rfl
@[simp] theorem eqvD_non_bl : eqvD .non (.bl a) = false := rfl
@[simp] theorem eqvD_bl_non : eqvD (.bl a) .non = false := rfl
@[simp] theorem eqvD_str_int : eqvD (.str x) (.int j) = false := rfl
@[simp] theorem eqvD_int_str : eqvD (.int j) (.str x) = false := rfl
@[simp] theorem cEq_lst' (h1 : okdL xs = true) (h2 : okdL ys = true) (d1 : dpL xs ≤ 50) (d2 : dpL ys ≤ 50) : cEq T (.lst xs) (.lst ys) st = .ok (.bl (eqL xs ys)) st := by rw [cEq_lst h1 h2 d1 d2, eqvD_lst h1 h2]
@[simp] theorem cNe_lst' (h1 : okdL xs = true) (h2 : okdL ys = true) (d1 : dpL xs ≤ 50) (d2 : dpL ys ≤ 50) : cNe T (.lst xs) (.lst ys) st = .ok (.bl (!eqL xs ys)) st := by rw [cNe_lst h1 h2 d1 d2, eqvD_lst h1 h2]
@[simp] theorem cEq_tup' (h1 : okdL xs = true) (h2 : okdL ys = true) (d1 : dpL xs ≤ 50) (d2 : dpL ys ≤ 50) : cEq T (.tup xs) (.tup ys) st = .ok (.bl (eqL xs ys)) st := by rw [cEq_tup h1 h2 d1 d2, eqvD_tup h1 h2]
@[simp] theorem cNe_tup' (h1 : okdL xs = true) (h2 : okdL ys = true) (d1 : dpL xs ≤ 50) (d2 : dpL ys ≤ 50) : cNe T (.tup xs) (.tup ys) st = .ok (.bl (!eqL xs ys)) st := by rw [cNe_tup h1 h2 d1 d2, eqvD_tup h1 h2]
theorem cEq_mref {k : Nat} (h : seqOf (.mref k) st = some xs) (h1 : okdL xs = true) (h2 : okdL ys = true) (d1 : dpL xs ≤ 50) (d2 : dpL ys ≤ 50) : cEq T (.mref k) (.lst ys) st = .ok (.bl (eqL xs ys)) st ∧ cNe T (.mref k) (.lst ys) st = .ok (.bl (!eqL xs ys)) st := by
  obtain ⟨p, hp⟩ := D.shw (.lst xs) h1
  obtain ⟨q, hq⟩ := D.shw (.lst ys) h2
  have e1 : pdT (.mref k) st = pdT (.lst xs) st := by
    unfold pdT
    simp only [h]
    rfl
  have key := eqD_ok (st := st) hp hq (show dpL xs + 1 ≤ 60 by omega) (show dpL ys + 1 ≤ 60 by omega) rfl rfl
  rw [eqvD_lst h1 h2] at key
  have m1 : clsOf (.mref k) st = none := by
    have h' : (match st[k]? with | some (.lst xs) => some xs | some (.frz (.lst xs)) => some xs | _ => none) = some xs := h
    show (match st[k]? with | some (.ins c gs) => some (c, gs) | some (.frz (.ins c gs)) => some (c, gs) | _ => none) = none
    revert h'
    cases st[k]? with
    | none => simp
    | some o =>
      cases o with
      | lst _ => simp
      | ins _ _ => simp
      | frz d => cases d <;> simp
  have m2 : ∀ nm, ownFn T nm (.mref k) st = none := fun nm => by unfold ownFn; rw [m1]
  have m3 : ∀ nm, ownFn T nm (.lst ys) st = none := fun nm => rfl
  have f1 : ∀ op, mCmp T op (.mref k) (.lst ys) st = .bad := fun op => by unfold mCmp; rw [m2]
  constructor
  · unfold cEq
    rw [orM_r rfl, orM_r (f1 _), orM_r (by unfold mCmpR; rfl)]
    unfold eqD
    rw [e1]
    exact key.1
  · unfold cNe
    rw [orM_r rfl, orM_r (by unfold mNe; rw [f1]; rfl), orM_r (by unfold mNeR; rfl)]
    unfold neD
    rw [e1]
    exact key.2
@[simp] theorem cEq_cl (h1 : okdL xs = true) (h2 : okdL ys = true) (d1 : dpL xs ≤ 50) (d2 : dpL ys ≤ 50) : cEq T (.mref (s.length + 1)) (.lst ys) (P :: (s ++ [.lst xs])) = .ok (.bl (eqL xs ys)) (P :: (s ++ [.lst xs])) := (cEq_mref seqOf_cl h1 h2 d1 d2).1
@[simp] theorem cNe_cl (h1 : okdL xs = true) (h2 : okdL ys = true) (d1 : dpL xs ≤ 50) (d2 : dpL ys ≤ 50) : cNe T (.mref (s.length + 1)) (.lst ys) (P :: (s ++ [.lst xs])) = .ok (.bl (!eqL xs ys)) (P :: (s ++ [.lst xs])) := (cEq_mref seqOf_cl h1 h2 d1 d2).2
/-! two lists behind all others of the store -/
section
variable {o o1 o2 : MO} {zs : List D}
@[simp] theorem lAddM_ {x y : D} : lAddM x y st = match seqOf x st, seqOf y st with
  | some a, some b => if a.length + b.length ≤ 1000000 then .ok (.mref st.length) (st ++ [.lst (a ++ b)]) else .bad
  | _, _ => .bad := rfl
@[simp] theorem getE_cl2 : (P :: (s ++ [o1, o]))[s.length + 1 + 1]? = some o := by simp
@[simp] theorem set_cl2 : (P :: (s ++ [o1, o])).set (s.length + 1 + 1) o2 = P :: (s ++ [o1, o2]) := by simp
@[simp] theorem seqOf_cl2 : seqOf (.mref (s.length + 1 + 1)) (P :: (s ++ [o1, .lst zs])) = some zs := by unfold seqOf; simp
@[simp] theorem cEq_cl2 (h1 : okdL xs = true) (h2 : okdL ys = true) (d1 : dpL xs ≤ 50) (d2 : dpL ys ≤ 50) : cEq T (.mref (s.length + 1 + 1)) (.lst ys) (P :: (s ++ [o1, .lst xs])) = .ok (.bl (eqL xs ys)) (P :: (s ++ [o1, .lst xs])) := (cEq_mref seqOf_cl2 h1 h2 d1 d2).1
@[simp] theorem isLst_cl : isLstD (.mref (s.length + 1)) (P :: (s ++ [.lst zs])) = true := isLst_of seqOf_cl
@[simp] theorem isLst_cl2 : isLstD (.mref (s.length + 1 + 1)) (P :: (s ++ [o1, .lst zs])) = true := isLst_of seqOf_cl2
@[simp] theorem mAppend_cl {y : D} (hl : zs.length < 1000000) : mAppend (.mref (s.length + 1)) [y] (P :: (s ++ [.lst zs])) = .ok .non (P :: (s ++ [.lst (zs ++ [y])])) := by rw [mAppend_ getE_cl hl, set_cl]
@[simp] theorem mAppend_cl2 {y : D} (hl : zs.length < 1000000) : mAppend (.mref (s.length + 1 + 1)) [y] (P :: (s ++ [o1, .lst zs])) = .ok .non (P :: (s ++ [o1, .lst (zs ++ [y])])) := by rw [mAppend_ getE_cl2 hl, set_cl2]
end
end
end MP
set_option Elab.async false
set_option linter.all false
set_option maxRecDepth 100000
set_option maxHeartbeats 1000000
/-! defs with lambdas as values, run -/
namespace MP
open PySem PySem.Spec PyProof.Rows L2 SP
section
variable {P : MO} {n : Nat} {sl : Sl} {b : SS} {Q : D → Sto → Prop} {E : D → Sto → Prop} {st : Sto}
theorem nlL_ints : ∀ cs : List Int, nlL (cs.map D.int) = true
  | [] => rfl
  | c :: cs => by
    show (D.nl (.int c) && nlL (cs.map D.int)) = true
    rw [nlL_ints cs]; rfl
theorem Pen.nl {k : Nat} (h : Pen k P) : P.nl = true := by
  obtain ⟨cs, i, l, rfl, _⟩ := h
  show (nlL (cs.map D.int) && true) = true
  rw [nlL_ints]; rfl
theorem wp_guard (hP : P.nl = true) (hs : sl.v.all slNl = true) (h : (b n sl [P]).wp fun r => ∃ bb P' l, r = .rt (.bl bb) (P' :: l) ∧ P'.nl = true ∧ P'.clean 1 = true ∧ Q (.bl bb) [P']) : (fin [P] (sGuard b n sl [P])).wp Q E := by
  have hg : [P].all MO.nl = true := by simp [hP]
  unfold sGuard
  rw [if_pos ⟨hg, hs⟩]
  have hq := h.q
  revert hq
  cases b n sl [P] with
  | bad => exact fun z => z.elim
  | rt d st' =>
    rintro ⟨bb, P', l, e, h1, h2, h3⟩
    cases e
    unfold gEnd
    dsimp only
    rw [if_pos ⟨rfl, rfl, fun i hi => .inr ⟨P', by
      have : i = 0 := by simp at hi; omega
      subst this
      rfl, h2⟩, by simp [h1]⟩]
    simp
    exact h3
  | nx _ _ => rintro ⟨bb, P', l, e, _⟩; cases e
  | bk _ _ => rintro ⟨bb, P', l, e, _⟩; cases e
  | ct _ _ => rintro ⟨bb, P', l, e, _⟩; cases e
  | exc _ _ _ => rintro ⟨bb, P', l, e, _⟩; cases e
@[simp] theorem eHoleVi_ {vs : List Nat} {hb : MM D → SS} {ms : List EE} {me : EE} : eHoleVi vs n hb ms me sl st = (me sl st).bind fun d st => holeSelI vs n hb ms sl d st := rfl
@[simp] theorem holeSelI_ {vs : List Nat} {hb : MM D → SS} {ms : List EE} {id : Nat} : holeSelI vs n hb ms sl (.lam id []) st = match ms[id]? with
    | some m => eHole n hb m (sl.wipe vs) st
    | none => .bad := rfl
@[simp] theorem sAug_ {i : Nat} {f : D → D → MM D} {me : EE} : sAug i f me n sl st = match sl.v[i]? with
  | some (some d1) => toS (me sl st) sl fun d2 st => toS (f d1 d2 st) sl fun d st => .nx (sl.set i d) st
  | _ => .bad := rfl
@[simp] theorem b_max_ {T : Tb} {i j : Int} : b_max T [.int i, .int j] st = .ok (.int (if j > i then j else i)) st := rfl
@[simp] theorem b_min_ {T : Tb} {i j : Int} : b_min T [.int i, .int j] st = .ok (.int (if j < i then j else i)) st := rfl
@[simp] theorem nl_non : slNl (some .non) = true := rfl
@[simp] theorem nl_none : slNl none = true := rfl
@[simp] theorem nl_int {i : Int} : slNl (some (.int i)) = true := rfl
@[simp] theorem nl_mref {i : Nat} : slNl (some (.mref i)) = true := rfl
@[simp] theorem nl_sth {a b : Rat} : slNl (some (sth a b)) = true := rfl
@[simp] theorem nl_amt {a : Rat} : slNl (some (amt a)) = true := rfl
end
end MP
set_option Elab.async false
set_option linter.all false
set_option maxRecDepth 100000
set_option maxHeartbeats 1000000
namespace MP
open PySem PySem.Spec PyProof.Rows L2 SP TL NumText
section
variable {j n : Nat} {s : Sto} {P : MO} {Q : D → Sto → Prop} {E : D → Sto → Prop}
theorem wt_le {i : Int} (h : i.natAbs < 2 ^ 1800) : (D.int i).wt ≤ 1803 := by
  show i.natAbs.log2 + 3 ≤ 1803
  by_cases e : i.natAbs = 0
  · rw [e]; decide
  · have := (Nat.log2_lt e).mpr h
    omega
theorem rp_int {T : Tb} {i : Int} (h : Sm 1800 i) : b_repr T [.int i] s = .ok (.str (decT i)) s := by
  have : i.natAbs.log2 < 1920 := by
    by_cases e : i.natAbs = 0
    · rw [e]; decide
    · have := (Nat.log2_lt e).mpr h
      omega
  exact if_pos this
/-! _law_low, _law_is -/
theorem low_ok {a b : Int} (hb : b ≠ 0) (s1 : Sm 1600 a) (s2 : Sm 1600 b) : rn (j + 1) "_law_low" [.int a, .int b] s = .ok (.tup [.int (qd a b).num, .int (qd a b).den]) s := by
  have hg : (Nat.gcd a.natAbs b.natAbs : Int) ≠ 0 := by
    have := Nat.gcd_pos_of_pos_right a.natAbs (n := b.natAbs) (by omega)
    omega
  have hg2 : Ld (Nat.gcd a.natAbs b.natAbs : Int) := ⟨hg, Nat.lt_of_le_of_lt (Nat.le_of_dvd (by omega) (Nat.gcd_dvd_right _ _)) (pow_lt_B2 s2 (by decide))⟩
  have n1 := low_num (a := a) hb
  have n2 := low_den (a := a) hb
  have l1 := s1.l1
  have l2 := s2.l1
  have l3 : L1 (-1) := L1_sm (by omega) (by omega)
  rw [e_law_low, b_law_low]
  simp
  rw [euclid_loop (fun x y => ⟨[some (.int a), some (.int b), none, some (.int x), some (.int y)], false⟩) (fun x y => ?_) (fun x y h => ?_) 4000000 FU a.natAbs b.natAbs (pow_lt_B1 s2 (by decide)) (FU_le (Nat.le_refl _))]
  · by_cases h : 0 < b
    · rw [if_pos h] at n1 n2
      simp [h, l1, l2, hg2, n1, n2]
    · rw [if_neg h] at n1 n2
      simp [h, l1, l2, l3, hg2, n1, n2]
  · cases y <;> simp
  · have h2 : ((y : Nat) : Int) ≠ 0 := by omega
    simp only [sPar_, aCons_, aNil_, eVar_, eOp_, eCallD_, b_int_int, sl_get, List.getElem?_cons_zero, List.getElem?_cons_succ, Res.bind_ok, bMod_int h2, fmod_nat, toS_ok, sl_set, List.set_cons_zero, List.set_cons_succ]
theorem is_ok {a b : Int} {q : Rat} (hq : q = qd a b) (hb : b ≠ 0) (s1 : Sm 1600 a) (s2 : Sm 1600 b) : rn (j + 2) "_law_is" [amt q, .int a, .int b] s = .ok (.bl true) s := by
  subst hq
  have lo := fun st => low_ok (j := j) (s := st) hb s1 s2
  have sz := s1.qd s2 hb
  have k1 : (D.int (qd a b).num).okd = true := okd_int (Nat.lt_trans sz.1 (by decide +kernel))
  have k2 : (D.int (qd a b).den).okd = true := okd_int (Nat.lt_trans (by simpa using sz.2) (by decide +kernel))
  have hr : ∀ st, b_repr (sta (rn (j + 1))) [.tup [.int (qd a b).num, .int (qd a b).den]] st = .ok (.str (reprD (.tup [.int (qd a b).num, .int (qd a b).den]))) st := fun st => by
    refine b_repr_tup (by simp [k1, k2]) (by simp) ?_
    have w1 := wt_le (i := (qd a b).num) (Nat.lt_trans sz.1 (by decide +kernel))
    have w2 := wt_le (i := (qd a b).den) (Nat.lt_trans (by simpa using sz.2) (by decide +kernel))
    simp only [wtL]
    omega
  rw [e_law_is, b_law_is]
  simp [lo, hr]
/-! sums -/
theorem ix6_3 {T : Tb} {a b c d e f : D} : dIxT T (.lst [a, b, c, d, e, f]) (.int 3) s = .ok d s := rfl
theorem ix6_4 {T : Tb} {a b c d e f : D} : dIxT T (.lst [a, b, c, d, e, f]) (.int 4) s = .ok e s := rfl
theorem ix6_5 {T : Tb} {a b c d e f : D} : dIxT T (.lst [a, b, c, d, e, f]) (.int 5) s = .ok f s := rfl
section
variable {t u v w : Int} {d : D} (hd : NumD d (qd v w)) (st1 : Sm 100 t) (su : Sm 100 u) (sv : Sm 100 v) (sw : Sm 100 w) (hu : 0 < u) (hw : 0 < w)
include hd st1 su sv sw hu hw
theorem sums_ok : rn (j + 7) "_law_sums_right" [.tup [.int t, .int u], .tup [.int v, .int w], amt (qd t u), d] s = .ok (.bl true) s := by
  have u0 : u ≠ 0 := by omega
  have w0 : w ≠ 0 := by omega
  have o1 : Ok (qd t u) := (st1.qd su u0).le (by decide)
  have o2 : Ok (qd v w) := (sv.qd sw w0).le (by decide)
  have l1 := st1.l1; have l2 := su.l1; have l3 := sv.l1; have l4 := sw.l1
  have m1 := st1.mul sw; have m2 := sv.mul su; have m3 := su.mul sw; have m4 := st1.mul sv
  have uw : u * w ≠ 0 := by simp [u0, w0]
  have a1 := fun st => n_add (j := j + 1) (st := st) hd o1 o2
  have a2 := fun st => n_radd (j := j + 1) (st := st) hd o1 o2
  have a3 := fun st => n_sub (j := j + 1) (st := st) hd o1 o2
  have a4 := fun st => n_rsub (j := j + 1) (st := st) hd o1 o2
  have a5 := fun st => n_mul (j := j + 1) (st := st) hd o1 o2
  have a6 := fun st => n_rmul (j := j + 1) (st := st) hd o1 o2
  have i1 := fun st => is_ok (j := j + 4) (s := st) (q := qd t u + qd v w) (qd_addx u0 w0) uw ((m1.add m2).le (by decide)) (m3.le (by decide))
  have i2 := fun st => is_ok (j := j + 4) (s := st) (q := qd v w + qd t u) (by rw [Rat.add_comm]; exact qd_addx u0 w0) uw ((m1.add m2).le (by decide)) (m3.le (by decide))
  have i3 := fun st => is_ok (j := j + 4) (s := st) (q := qd t u - qd v w) (qd_subx u0 w0) uw ((m1.sub m2).le (by decide)) (m3.le (by decide))
  have i4 := fun st => is_ok (j := j + 4) (s := st) (q := qd v w - qd t u) (by rw [qd_subx w0 u0, Int.mul_comm w u]) uw ((m2.sub m1).le (by decide)) (m3.le (by decide))
  have i5 := fun st => is_ok (j := j + 4) (s := st) (q := qd t u * qd v w) (qd_mulx u0 w0) uw (m4.le (by decide)) (m3.le (by decide))
  have i6 := fun st => is_ok (j := j + 4) (s := st) (q := qd v w * qd t u) (by rw [Rat.mul_comm]; exact qd_mulx u0 w0) uw (m4.le (by decide)) (m3.le (by decide))
  rw [e_law_sums_right, b_law_sums_right]
  simp [a1, a2, a3, a4, a5, a6, l1, l2, l3, l4]
  rw [eLc_map (xs := [.int 0, .int 1, .int 2, .int 3, .int 4, .int 5]) (f := fun _ => none) (by simp; rfl) (by simp) (fun x hx => by
    simp at hx
    rcases hx with rfl | rfl | rfl | rfl | rfl | rfl <;> simp [lcTurn, wipe_, ix6_3, ix6_4, ix6_5, l2, l4, i1, i2, i3, i4, i5, i6])]
  have e0 : ∀ st, cEq (sta (rn (j + 6))) (.lst []) (.lst []) st = .ok (.bl true) st := fun st => cEq_lst' rfl rfl (by decide) (by decide)
  simp [e0]
omit hd in
theorem parts_ok (v0 : v ≠ 0) : rn (j + 3) "_law_parts_right" [.tup [.int t, .int u], .tup [.int v, .int w], amt (qd t u / qd v w), .int (flo (qd t u / qd v w)), amt (qd t u - qd v w * (flo (qd t u / qd v w) : Rat))] s = .ok (.bl true) s := by
  have u0 : u ≠ 0 := by omega
  have w0 : w ≠ 0 := by omega
  have l1 := st1.l1; have l2 := su.l1; have l3 := sv.l1; have l4 := sw.l1
  have m1 := st1.mul sw; have m2 := su.mul sv; have m3 := su.mul sw
  have uw : u * w ≠ 0 := by simp [u0, w0]
  have uv : u * v ≠ 0 := by simp [u0, v0]
  have hf : flo (qd t u / qd v w) = (t * w).fdiv (u * v) := by rw [qd_divx u0 v0 w0, flo_qd uv]
  have sf : Sm 200 ((t * w).fdiv (u * v)) := m1.fdiv
  have l5 := sf.l1
  have l6 := (sf.mul sv).l1
  have ld := m2.ld uv
  have i1 := fun st => is_ok (j := j) (s := st) (qd_divx (t := t) u0 v0 w0) uv (m1.le (by decide)) (m2.le (by decide))
  have i2 := fun st => is_ok (j := j) (s := st) (qd_restx (t := t) (v := v) (a := (t * w).fdiv (u * v)) u0 w0) uw ((((m1.le (by decide) : Sm 400 (t * w)).sub (((sf.mul sv).mul su).le (by decide)))).le (by decide)) (m3.le (by decide))
  have r1 := fun st => rp_int (s := st) (T := sta (rn (j + 2))) (sf.le (by decide))
  rw [hf]
  rw [e_law_parts_right, b_law_parts_right]
  simp [l1, l2, l3, l4, l5, l6, ld, i1, i2, r1]
/-! _law_is_refused, _law_quotients_right -/
omit hd st1 su sv sw hu hw in
noncomputable def heard (T : Tb) (st : Sto) (r : Res D) : Res D := fin st (hb_law_is_refused T (fun _ => r) st.length ⟨[none, none, none], true⟩ st)
end
@[simp] theorem hole_ref {T : Tb} {m : EE} {sl : Sl} : eHole 3 (hb_law_is_refused T) m sl s = heard T s (m ⟨sl.v, false⟩ s) := by
  unfold heard
  rw [eHole_3, hb_law_is_refused, hb_law_is_refused]
  simp
theorem heard_amt : heard (sta (rn (j + 2))) s (.exc (badNumber (amt 0)) s) = .ok (.bl true) s := by
  unfold heard
  rw [hb_law_is_refused]
  simp [badNumber]
theorem heard_num {d : D} (h : NumD d 0) : heard (sta (rn (j + 2))) s (.exc (badNumber d) s) = .ok (.bl true) s := by
  generalize hq : (0 : Rat) = q at h
  cases h with
  | amt q =>
    subst hq
    exact heard_amt
  | int i =>
    have : i = 0 := by exact_mod_cast hq.symm
    subst this
    unfold heard
    rw [hb_law_is_refused]
    simp [badNumber]
theorem guard_num {t u v w : Int} {q p : Rat} {d : D} (h : NumD d q) : ([some (D.tup [D.int t, D.int u]), some (D.tup [D.int v, D.int w]), some (amt p), some d, none, none] : List (Option D)).all slNl = true := by cases h <;> rfl
section
variable {t u v w : Int} {d : D} (hd : NumD d (qd v w)) (st1 : Sm 100 t) (su : Sm 100 u) (sv : Sm 100 v) (sw : Sm 100 w) (hu : 0 < u) (hw : 0 < w)
include hd st1 su sv sw hu hw
theorem quot_wp (hP : Pen n P) (h : Q (.bl true) [P]) : (rn (j + 9) "_law_quotients_right" [.tup [.int t, .int u], .tup [.int v, .int w], amt (qd t u), d] [P]).wp Q E := by
  have u0 : u ≠ 0 := by omega
  have w0 : w ≠ 0 := by omega
  have o1 : Ok (qd t u) := (st1.qd su u0).le (by decide)
  have o2 : Ok (qd v w) := (sv.qd sw w0).le (by decide)
  have e0 : ∀ st, cEq (sta (rn (j + 8))) (.lst []) (.lst []) st = .ok (.bl true) st := fun st => cEq_lst' rfl rfl (by decide) (by decide)
  rw [e_law_quotients_right, b_law_quotients_right]
  refine wp_guard hP.nl (guard_num hd) ?_
  by_cases v0 : v = 0
  · have hd0 : NumD d 0 := by
      have : qd v w = 0 := (qd_nz w0).mpr v0
      rw [this] at hd
      exact hd
    have k1 := fun st => n_per0 (j := j + 4) (st := st) (p := qd t u) hd0
    have k2 := fun st => n_div0 (j := j + 3) (st := st) (p := qd t u) hd0
    have k3 := fun st => n_mod0 (j := j + 2) (st := st) (p := qd t u) hd0
    have k4 := fun st => heard_num (j := j + 6) (s := st) hd0
    simp [v0]
    rw [eLc_map (f := fun _ => none) (by simp; rfl) (by simp) (fun x hx => by
      simp at hx
      rcases hx with rfl | rfl | rfl <;> simp [lcTurn, wipe_, k1, k2, k3, k4])]
    simp [e0]
    exact ⟨hP.nl, hP.clean, h⟩
  · have q0 : qd v w ≠ 0 := fun e => v0 ((qd_nz w0).mp e)
    have uv : u * v ≠ 0 := by simp [u0, v0]
    have hf : flo (qd t u / qd v w) = (t * w).fdiv (u * v) := by rw [qd_divx u0 v0 w0, flo_qd uv]
    have sf : Sm 200 (flo (qd t u / qd v w)) := by
      rw [hf]
      exact (st1.mul sw).fdiv
    have o3 : Ok (flo (qd t u / qd v w) : Rat) := sf.okr
    have o4 : Ok (qd v w * (flo (qd t u / qd v w) : Rat)) := Sz.le (Sz.mul (sv.qd sw w0) (Sz.int sf (by decide))) (by decide)
    have k1 := fun st => n_per (j := j + 4) (st := st) hd o1 o2 q0
    have k2 := fun st => n_div (j := j + 3) (st := st) hd o1 o2 q0
    have k3 := fun st => n_mod (j := j + 2) (st := st) hd o1 o2 q0 o3 o4
    have p1 := fun st => parts_ok (j := j + 5) (s := st) st1 su sv sw hu hw v0
    by_cases t0 : t = 0
    · have e1 : qd t u = 0 := (qd_nz u0).mpr t0
      have k4 := fun st => heard_amt (j := j + 6) (s := st)
      have k5 := fun st => n_rdiv0 (j := j + 2) (st := st) hd
      have k6 := fun st => n_rmod0 (j := j + 1) (st := st) hd
      simp [v0, k1, k2, k3, p1]
      rw [if_pos t0]
      rw [eLc_map (f := fun _ => none) (by simp; rfl) (by simp) (fun x hx => by
        simp at hx
        rcases hx with rfl | rfl <;> simp [lcTurn, wipe_, e1, k4, k5, k6])]
      simp [e0]
      exact ⟨hP.nl, hP.clean, h⟩
    · have q1 : qd t u ≠ 0 := fun e => t0 ((qd_nz u0).mp e)
      have vu : w * t ≠ 0 := by simp [w0, t0]
      have hf2 : flo (qd v w / qd t u) = (v * u).fdiv (w * t) := by rw [qd_divx w0 t0 u0, flo_qd vu]
      have sf2 : Sm 200 (flo (qd v w / qd t u)) := by
        rw [hf2]
        exact (sv.mul su).fdiv
      have o5 : Ok (flo (qd v w / qd t u) : Rat) := sf2.okr
      have o6 : Ok (qd t u * (flo (qd v w / qd t u) : Rat)) := Sz.le (Sz.mul (st1.qd su u0) (Sz.int sf2 (by decide))) (by decide)
      have k4 := fun st => q_of_num (j := j + 5) (st := st) hd
      have k5 := fun st => q_per (j := j + 4) (st := st) o2 o1 q1
      have k6 := fun st => n_rdiv (j := j + 2) (st := st) hd o1 o2 q1
      have k7 := fun st => n_rmod (j := j + 1) (st := st) hd o1 o2 q1 o5 o6
      have p2 := fun st => parts_ok (j := j + 5) (s := st) sv sw st1 su hw hu t0
      simp [v0, t0, k1, k2, k3, p1, k4, k5, k6, k7, p2]
      exact ⟨hP.nl, hP.clean, h⟩
end
/-! _law_in_place_right -/
theorem au_add {d : D} {p q : Rat} (h : NumD d q) : iAddA (sta (rn j)) (amt p) d s = rn j "Amount.__add__" [amt p, d] s := by
  cases h <;> (unfold iAddA; rw [orM_r (by kernel_rfl)]; kernel_rfl)
theorem au_sub {d : D} {p q : Rat} (h : NumD d q) : iSubA (sta (rn j)) (amt p) d s = rn j "Amount.__sub__" [amt p, d] s := by
  cases h <;> (unfold iSubA; rw [orM_r (by kernel_rfl)]; kernel_rfl)
theorem au_mul {d : D} {p q : Rat} (h : NumD d q) : iMulA (sta (rn j)) (amt p) d s = rn j "Amount.__mul__" [amt p, d] s := by
  cases h <;> (unfold iMulA; kernel_rfl)
theorem au_div {d : D} {p q : Rat} (h : NumD d q) : iDivA (sta (rn j)) (amt p) d s = rn j "Amount.__floordiv__" [amt p, d] s := by
  cases h <;> (unfold iDivA; kernel_rfl)
theorem au_mod {d : D} {p q : Rat} (h : NumD d q) : iModA (sta (rn j)) (amt p) d s = rn j "Amount.__mod__" [amt p, d] s := by
  cases h <;> (unfold iModA; kernel_rfl)
section
variable {t u v w : Int} {d : D} (hd : NumD d (qd v w)) (st1 : Sm 100 t) (su : Sm 100 u) (sv : Sm 100 v) (sw : Sm 100 w) (hu : 0 < u) (hw : 0 < w)
include hd st1 su sv sw hu hw
theorem place_ok : rn (j + 9) "_law_in_place_right" [.tup [.int t, .int u], .tup [.int v, .int w], amt (qd t u), d] s = .ok (.bl true) s := by
  have u0 : u ≠ 0 := by omega
  have w0 : w ≠ 0 := by omega
  have o1 : Ok (qd t u) := (st1.qd su u0).le (by decide)
  have o2 : Ok (qd v w) := (sv.qd sw w0).le (by decide)
  have a1 := fun st => n_add (j := j + 3) (st := st) hd o1 o2
  have a2 := fun st => n_sub (j := j + 3) (st := st) hd o1 o2
  have a3 := fun st => n_mul (j := j + 3) (st := st) hd o1 o2
  have f1 : ∀ st, rn (j + 8) "Amount.__add__" [amt (qd t u), d] st = .ok (amt (qd t u + qd v w)) st := fun st => by
    rw [← a1]
    generalize qd v w = q at hd
    cases hd <;> simp
  have f2 : ∀ st, rn (j + 8) "Amount.__sub__" [amt (qd t u), d] st = .ok (amt (qd t u - qd v w)) st := fun st => by
    rw [← a2]
    generalize qd v w = q at hd
    cases hd <;> simp
  have f3 : ∀ st, rn (j + 8) "Amount.__mul__" [amt (qd t u), d] st = .ok (amt (qd t u * qd v w)) st := fun st => by
    rw [← a3]
    generalize qd v w = q at hd
    cases hd <;> simp
  have b1 := fun st => au_add (j := j + 8) (s := st) (p := qd t u) hd
  have b2 := fun st => au_sub (j := j + 8) (s := st) (p := qd t u) hd
  have b3 := fun st => au_mul (j := j + 8) (s := st) (p := qd t u) hd
  have b4 := fun st => au_div (j := j + 8) (s := st) (p := qd t u) hd
  have b5 := fun st => au_mod (j := j + 8) (s := st) (p := qd t u) hd
  have i1 := fun st => is_ok (j := j + 6) (s := st) (q := qd t u) rfl u0 (st1.le (by decide)) (su.le (by decide))
  rw [e_law_in_place_right, b_law_in_place_right]
  by_cases v0 : v = 0
  · simp [v0, a1, a2, a3, f1, f2, f3, b1, b2, b3, i1]
  · have q0 : qd v w ≠ 0 := fun e => v0 ((qd_nz w0).mp e)
    have uv : u * v ≠ 0 := by simp [u0, v0]
    have hf : flo (qd t u / qd v w) = (t * w).fdiv (u * v) := by rw [qd_divx u0 v0 w0, flo_qd uv]
    have sf : Sm 200 (flo (qd t u / qd v w)) := by
      rw [hf]
      exact (st1.mul sw).fdiv
    have o3 : Ok (flo (qd t u / qd v w) : Rat) := sf.okr
    have o4 : Ok (qd v w * (flo (qd t u / qd v w) : Rat)) := Sz.le (Sz.mul (sv.qd sw w0) (Sz.int sf (by decide))) (by decide)
    have k2 := fun st => n_div (j := j + 3) (st := st) hd o1 o2 q0
    have k3 := fun st => n_mod (j := j + 2) (st := st) hd o1 o2 q0 o3 o4
    have k4 := fun st => n_floor (j := j + 3) (st := st) hd o1 o2 q0
    have k5 := fun st => n_modf (j := j + 2) (st := st) hd o1 o2 q0 o3 o4
    simp [v0, a1, a2, a3, f1, f2, f3, b1, b2, b3, b4, b5, i1, k2, k3, k4, k5]
end
/-! drawing -/
theorem pair_wp (hP : Pen n P) (hn : n < 100000) (h : ∀ P' (t w : Int), Pen (n + 6) P' → Sm 100 t → Sm 100 w → 0 < w → Q (.tup [.int t, .int w]) (P' :: s)) : (rn (j + 3) "_law_pair" [.mref 0] (P :: s)).wp Q E := by
  have hp : (10 : Int) ^ (30 : Int).toNat = 1000000000000000000000000000000 := by decide
  rw [e_law_pair, b_law_pair]
  simp [hp]
  refine wp_fin (d_draw hP fun P d1 hP a1 b1 => ?_)
  simp
  refine wp_fin (d_draw hP fun P d2 hP a2 b2 => ?_)
  refine wp_fin (d_pick hP fun P t hP ht => ?_)
  have ht : ∃ k : Int, t = .int k ∧ Sm 100 k := by
    unfold Sm
    simp at ht
    rcases ht with rfl | rfl | rfl | rfl | rfl | rfl | rfl | rfl | rfl <;> exact ⟨_, rfl, by omega⟩
  obtain ⟨t, rfl, t1⟩ := ht
  refine wp_fin (d_draw hP fun P d3 hP a3 b3 => ?_)
  simp
  refine wp_fin (d_pick hP fun P w hP hw => ?_)
  have hw : ∃ k : Int, w = .int k ∧ Sm 100 k ∧ 0 < k := by
    unfold Sm
    simp at hw
    rcases hw with rfl | rfl | rfl | rfl | rfl | rfl | rfl | rfl | rfl <;> exact ⟨_, rfl, by omega, by omega⟩
  obtain ⟨w, rfl, w1, w0⟩ := hw
  simp
  refine wp_fin (d_draw hP fun P d4 hP a4 b4 => ?_)
  simp
  refine h _ _ _ hP ?_ w1 w0
  split
  · exact t1
  · exact t1.neg
end
end MP
set_option Elab.async false
set_option linter.all false
set_option maxRecDepth 100000
set_option maxHeartbeats 1000000
namespace MP
open PySem PySem.Spec PyProof.Rows L2 SP TL NumText
section
variable {j n : Nat} {s : Sto} {P : MO} {Q : D → Sto → Prop} {E : D → Sto → Prop}
theorem made_wp {t w : Int} (hP : Pen n P) (hn : n < 100000) (t1 : Sm 100 t) (w1 : Sm 100 w) (w0 : 0 < w) (h : ∀ P', Pen (n + 2) P' → Q (amt (qd t w)) (P' :: s)) : (rn (j + 3) "_law_made" [.mref 0, .tup [.int t, .int w]] (P :: s)).wp Q E := by
  have hp : (10 : Int) ^ (25 : Int).toNat = 10000000000000000000000000 := by decide
  have l1 := t1.l1
  have l2 := w1.l1
  have fin1 : ∀ (k : Int) (st : Sto), k ≠ 0 → Sm 20 k → mkI (sta (rn (j + 2))) "Amount" [.int (t * k), .int (w * k)] st = .ok (amt (qd t w)) st := fun k st k0 sk => by
    have wk : w * k ≠ 0 := by
      have : w ≠ 0 := by omega
      simp [this, k0]
    rw [mk_amt ((w1.mul sk).ld wk), qd_times (by omega) k0]
  rw [e_law_made, b_law_made]
  simp [-abs_nat]
  refine wp_fin (d_pick hP fun P x hP hx => ?_)
  have hx : ∃ e : Int, x = .int e ∧ e ≠ 0 ∧ Sm 5 e := by
    unfold Sm
    simp at hx
    rcases hx with rfl | rfl <;> exact ⟨_, rfl, by decide, by decide⟩
  obtain ⟨e, rfl, e0, e1⟩ := hx
  have l3 := e1.l1
  generalize (if t < 0 then -t else t) = tn
  by_cases hc : tn < 10000000000000000000000000 ∧ w < 10000000000000000000000000
  · rw [if_pos hc]
    simp
    refine wp_fin (d_pick hP fun P y hP hy => ?_)
    have hy : ∃ k : Int, y = .int k ∧ k ≠ 0 ∧ Sm 10 k := by
      unfold Sm
      simp at hy
      rcases hy with rfl | rfl | rfl | rfl <;> exact ⟨_, rfl, by decide, by decide⟩
    obtain ⟨k, rfl, k0, k1⟩ := hy
    have l4 := k1.l1
    have ek := e1.mul k1
    have l5 := ek.l1
    have f := fun st => fin1 (e * k) st (by simp [e0, k0]) (ek.le (by decide))
    simp [l1, l2, l3, l4, l5, f]
    exact h _ hP
  · rw [if_neg hc]
    have f := fun st => fin1 e st e0 (e1.le (by decide))
    simp [l1, l2, l3, f]
    exact h _ (hP.le (by omega))
theorem operand_wp {v w : Int} (hP : Pen n P) (hn : n < 90000) (t1 : Sm 100 v) (w1 : Sm 100 w) (w0 : 0 < w) (h : ∀ P' d, Pen (n + 3) P' → NumD d (qd v w) → Q d (P' :: s)) : (rn (j + 4) "_law_operand" [.mref 0, .tup [.int v, .int w]] (P :: s)).wp Q E := by
  have lo := fun st => low_ok (j := j + 2) (s := st) (a := v) (b := w) (by omega) (t1.le (by decide)) (w1.le (by decide))
  rw [e_law_operand, b_law_operand]
  simp [lo]
  by_cases hden : (qd v w).den = 1
  · have hq : qd v w = (((qd v w).num : Int) : Rat) := by
      have e := qd_self (qd v w)
      rw [hden] at e
      have := qd_int (qd v w).num
      rw [← this]
      exact e.symm
    have hnum : NumD (.int (qd v w).num) (qd v w) := by
      have := NumD.int (qd v w).num
      rw [← hq] at this
      exact this
    simp [hden]
    refine wp_fin (d_draw hP fun P d hP a b => ?_)
    by_cases d0 : d = 0
    · simp [d0]
      exact h _ _ (hP.le (by omega)) hnum
    · simp [d0]
      refine wp_fin (made_wp hP (by omega) t1 w1 w0 fun P hP => ?_)
      simp
      exact h _ _ hP (.amt _)
  · have : ((qd v w).den : Int) ≠ 1 := by omega
    simp [this]
    refine wp_fin (made_wp hP (by omega) t1 w1 w0 fun P hP => ?_)
    simp
    exact h _ _ (hP.le (by omega)) (.amt _)
theorem abs_qd {t u : Int} (hu : 0 < u) : (if qd t u < 0 then -qd t u else qd t u) = qd t.natAbs u := by
  have e : qd t u < 0 ↔ t < 0 := by
    have := qd_lt (a := t) (b := u) (c := 0) (d := 1) hu (by decide)
    rw [show qd 0 1 = (0 : Rat) from by decide +kernel] at this
    simpa using this
  by_cases h : t < 0
  · rw [if_pos (e.mpr h), qd_negx]
    congr 1
    omega
  · rw [if_neg (fun x => h (e.mp x))]
    congr 1
    omega
theorem mkk_amt {d1 d2 : D} : mkIK (sta (rn j)) "Amount" ["bottom", "top"] [] [d2, d1] s = mkI (sta (rn j)) "Amount" [d1, d2] s := by kernel_rfl
/-! the law -/
def I01 (d0 : D) (i : Nat) (sl : Sl) (st : Sto) : Prop := ∃ (P : MO) (w2 w3 w4 w5 w6 : Option D), sl = ⟨[some d0, some (.mref 0), w2, w3, w4, w5, w6], false⟩ ∧ st = [P] ∧ Pen (i * 50) P
theorem law_wp (ns : List Int) (hb : ∀ z ∈ ns, Builtin.Int.intBits z ≤ 1048576) : (rn 30 "law" [.slst (ns.map .int)] []).wp (fun d _ => d = .bl true) := by
  obtain ⟨P, ep, hP⟩ := d_pen (j := 28) hb
  have z1 : ∀ st, rn 29 "_law_is" [amt (7 : Rat), .int 7, .int 1] st = .ok (.bl true) st := fun st => is_ok (j := 27) (by decide +kernel) (by decide) (by unfold Sm; decide +kernel) (by unfold Sm; decide +kernel)
  have z2 : ∀ st, rn 29 "_law_is" [amt (qd 6 (-4)), .int (-3), .int 2] st = .ok (.bl true) st := fun st => is_ok (j := 27) (by decide +kernel) (by decide) (by unfold Sm; decide +kernel) (by unfold Sm; decide +kernel)
  have z3 : Ld (-4) := ⟨by decide, pow_lt_B2 (n := 10) (by decide) (by decide)⟩
  rw [e_law, b_law]
  simp [ep]
  refine wp_finSq (wp_for (I := I01 (.slst (ns.map .int))) ⟨P, _, _, _, _, _, rfl, rfl, hP⟩ ?_ ?_)
  · rintro sl st ⟨P, w2, w3, w4, w5, w6, rfl, rfl, hP⟩
    simp [mkk_amt, z1, z2, z3]
    rw [cut_nil rfl]
    simp
  · rintro i x sl st hx ⟨P, w2, w3, w4, w5, w6, rfl, rfl, hP⟩
    have hi : i < 9 := by
      have := (List.getElem?_eq_some_iff.mp hx).1
      simpa [rangeD] using this
    simp
    refine wp_toS (pair_wp hP (by omega) fun P t u hP st1 su hu => ?_)
    refine wp_toS (pair_wp hP (by omega) fun P v w hP sv sw hw => ?_)
    refine wp_toS (made_wp hP (by omega) st1 su hu fun P hP => ?_)
    refine wp_toS (operand_wp hP (by omega) sv sw hw fun P d hP hd => ?_)
    have u0 : u ≠ 0 := by omega
    have o1 : Ok (qd t u) := (st1.qd su u0).le (by decide)
    have i1 := fun st => is_ok (j := 27) (s := st) (q := qd t u) rfl u0 (st1.le (by decide)) (su.le (by decide))
    have i2 := fun st => is_ok (j := 27) (s := st) (q := -qd t u) qd_negx u0 (st1.neg.le (by decide)) (su.le (by decide))
    have sa : Sm 1600 (t.natAbs : Int) := by
      have := st1.le (m := 1600) (by decide)
      unfold Sm at *
      simpa using this
    have i3 := fun st => is_ok (j := 27) (s := st) (q := if qd t u < 0 then -qd t u else qd t u) (abs_qd hu) u0 sa (su.le (by decide))
    have p1 := fun st => sums_ok (j := 22) (s := st) hd st1 su sv sw hu hw
    have p3 := fun st => place_ok (j := 20) (s := st) hd st1 su sv sw hu hw
    simp [i1, p1]
    refine wp_toS (quot_wp (j := 20) hd st1 su sv sw hu hw hP ?_)
    simp [p3, i1, i2, i3, o1]
    exact ⟨P, _, _, _, _, _, rfl, rfl, hP.le (by omega)⟩
theorem law_true (ns : List Int) (hl : ns.length ≤ 63) (hb : ∀ z ∈ ns, Builtin.Int.intBits z ≤ 1048576) : ∃ so, rn 30 "law" [.slst (ns.map .int)] [] = .ok (.bl true) so := by
  obtain ⟨d, s, e, rfl⟩ := ok_of_wp (law_wp ns hb)
  exact ⟨s, e⟩
end
end MP
set_option Elab.async false
set_option linter.all false
set_option maxRecDepth 100000
set_option maxHeartbeats 0
namespace MP
open PySem PySem.Spec PyProof.Rows L2 SP
abbrev R : PySem.W.OpenRow := PySem.W.OpenLaw.row PySem.Challenge.rw_slidpane_k01_amounts_reckoned
abbrev hk : PySem.W.Hook := hookL prFile roots 4 faB fnL fsL faL
def loose : List PySem.Str := (["_wall", "PaneError", "BadNumber", "BadText", "FIGURES", "is_integer", "is_plain", "shared_divisor", "integer_in", "Amount", "divisor_of", "_law_pen", "_law_draw", "_law_pick", "_law_pair", "_law_low"] : List PySem.Str) ++ (["_law_made", "_law_operand", "_law_is", "_law_sums_right", "_law_parts_right", "_law_is_refused", "_law_quotients_right", "_law_in_place_right"] : List PySem.Str)
def ob (s : PySem.W.SharedT) : AlL := obsLG prFile roots 4 faB fnL fsL faL (HandSHeadRun.getT s)
theorem ob_eq (s : PySem.W.SharedT) : ob s = hk.obs s.abs := obsLG_eq (HandSHeadRun.getT_eq s)
theorem run (w : World) : HandSHeadRun.RunEq R (PySem.W.view R.prog [27]) hk ob 40000 loose w := by
  intro os
  kernel_rfl
end MP
open PySem PySem.W PySem.Calls PyProof.Rows
theorem PySem.Challenge.cw_slidpane_k01_amounts_reckoned_holds : PySem.Challenge.rw_slidpane_k01_amounts_reckoned.Holds := by
  w_on; o_law
  refine HandSHeadRun.head_any (r := OpenLaw.row PySem.Challenge.rw_slidpane_k01_amounts_reckoned) (q := view (OpenLaw.row PySem.Challenge.rw_slidpane_k01_amounts_reckoned).prog [27]) (H := MP.hk) (ob := MP.ob) (M := 40000) (loose := MP.loose) (d := HandSHeadRun.topDef (OpenLaw.row PySem.Challenge.rw_slidpane_k01_amounts_reckoned).prog 27) (kwd := []) MP.ob_eq
    (by kernel_rfl) (fun s => by kernel_rfl) MP.run (by kernel_rfl) (by kernel_rfl) (by kernel_rfl) (by rfl) (by first | assumption | decide +kernel) (by decide +kernel) ⟨rfl, rfl, rfl, rfl, rfl, by decide +kernel⟩ ?hw ?hc
  case hw => w_witness2
  case hc =>
    refine MP.walk_G (l := PySem.Challenge.rw_slidpane_k01_amounts_reckoned) (n := 63) (j := 30) (L := MP.lists) (dfs := MP.dfs) (nm := "law") rfl (by decide) (by kernel_rfl) ⟨rfl, by decide, by decide⟩ (by kernel_rfl) ?F MP.law_true
    intro w mg h Y G
    obtain ⟨K, KX, c, t⟩ := Y
    exact ⟨K, MP.faL, MP.lfacts 30 KX G c t⟩

