import PyProof.Rows.All
import Wide.All
import OpenK.AllK
import Wide.FinOn
import HandS.ForMost
import KE.KFmtOwn
import HandS.More
import HandS.IsInst
import HandS.SlotsOwn
import HandS.ClsMeth
import HandS.FStr
import HandS.Wide
import HandS.Defaults
import HandS.WordsList
import HandS.Star
import HandS.OwnEq
import KE.GoesEnum
import HandS.Iter
import KE.KStateDown
import Lean
import HandS.Ends
import HandS.Words
import HandS.WordsExc
import HandS.Head0
import HandS.Head1
import HandS.Head2
import HandS.HeadEnd
import HandS.HeadHook1
import HandS.HeadHook2
import HandS.HeadNt
import PySem.Challenge.RW_slidpane_k25_texts_of_forms
set_option Elab.async false
set_option linter.all false
set_option maxRecDepth 100000
/-! the places of the statements -/
namespace SP
open PySem L2
def top (i : Nat) : Stmt := PySem.Challenge.pw_slidpane_k25_texts_of_forms.main.body.getD i (.Pass ⟨0, 0, 0, 0⟩)
abbrev s_wall : Stmt := top 0
abbrev c_PaneError : Stmt := top 2
abbrev c_BadNumber : Stmt := top 3
abbrev s_BadNumber_init : Stmt := inClass (top 3) 0
abbrev c_BadFold : Stmt := top 4
abbrev s_BadFold_init : Stmt := inClass (top 4) 0
abbrev c_BadSheet : Stmt := top 5
abbrev s_BadSheet_init : Stmt := inClass (top 5) 0
abbrev c_BadPanel : Stmt := top 6
abbrev s_BadPanel_init : Stmt := inClass (top 6) 0
abbrev c_BadFolding : Stmt := top 7
abbrev s_BadFolding_init : Stmt := inClass (top 7) 0
abbrev c_BadText : Stmt := top 8
abbrev s_BadText_init : Stmt := inClass (top 8) 0
abbrev c_TooMany : Stmt := top 9
abbrev s_TooMany_init : Stmt := inClass (top 9) 0
abbrev s_is_integer : Stmt := top 12
abbrev s_is_plain : Stmt := top 13
abbrev s_shared_divisor : Stmt := top 14
abbrev s_integer_in : Stmt := top 15
abbrev c_Amount : Stmt := top 16
abbrev s_Amount_init : Stmt := inClass (top 16) 0
abbrev s_Amount_is_number : Stmt := inClass (top 16) 1
abbrev s_Amount_of : Stmt := inClass (top 16) 2
abbrev s_Amount_total : Stmt := inClass (top 16) 3
abbrev s_Amount_read : Stmt := inClass (top 16) 4
abbrev s_Amount_per : Stmt := inClass (top 16) 5
abbrev s_Amount_add : Stmt := inClass (top 16) 6
abbrev s_Amount_radd : Stmt := inClass (top 16) 7
abbrev s_Amount_sub : Stmt := inClass (top 16) 8
abbrev s_Amount_rsub : Stmt := inClass (top 16) 9
abbrev s_Amount_mul : Stmt := inClass (top 16) 10
abbrev s_Amount_rmul : Stmt := inClass (top 16) 11
abbrev s_Amount_floordiv : Stmt := inClass (top 16) 12
abbrev s_Amount_rfloordiv : Stmt := inClass (top 16) 13
abbrev s_Amount_mod : Stmt := inClass (top 16) 14
abbrev s_Amount_rmod : Stmt := inClass (top 16) 15
abbrev s_Amount_neg : Stmt := inClass (top 16) 16
abbrev s_Amount_abs : Stmt := inClass (top 16) 17
abbrev s_Amount_bool : Stmt := inClass (top 16) 18
abbrev s_Amount_eq : Stmt := inClass (top 16) 19
abbrev s_Amount_lt : Stmt := inClass (top 16) 20
abbrev s_Amount_le : Stmt := inClass (top 16) 21
abbrev s_Amount_gt : Stmt := inClass (top 16) 22
abbrev s_Amount_ge : Stmt := inClass (top 16) 23
abbrev s_Amount_str : Stmt := inClass (top 16) 24
abbrev s_divisor_of : Stmt := top 17
abbrev c_Folding : Stmt := top 20
abbrev s_Folding_init : Stmt := inClass (top 20) 0
abbrev s_Folding_len : Stmt := inClass (top 20) 1
abbrev s_Folding_iter : Stmt := inClass (top 20) 2
abbrev s_Folding_getitem : Stmt := inClass (top 20) 3
abbrev s_Folding_neg : Stmt := inClass (top 20) 4
abbrev s_Folding_eq : Stmt := inClass (top 20) 5
abbrev s_Folding_str : Stmt := inClass (top 20) 6
abbrev c_Fold : Stmt := top 22
abbrev s_Fold_init : Stmt := inClass (top 22) 2
abbrev s_Fold_ruled : Stmt := inClass (top 22) 3
abbrev s_Fold_stepped : Stmt := inClass (top 22) 4
abbrev s_Fold_turned : Stmt := inClass (top 22) 5
abbrev s_Fold_eq : Stmt := inClass (top 22) 6
abbrev s_Fold_str : Stmt := inClass (top 22) 7
abbrev c_Ruled : Stmt := top 23
abbrev s_Ruled_init : Stmt := inClass (top 23) 1
abbrev c_Stepped : Stmt := top 24
abbrev s_Stepped_init : Stmt := inClass (top 24) 1
abbrev c_Over : Stmt := top 25
abbrev s_Over_init : Stmt := inClass (top 25) 1
abbrev c_Under : Stmt := top 26
abbrev s_Under_init : Stmt := inClass (top 26) 1
abbrev c_RuledOver : Stmt := top 27
abbrev s_RuledOver_init : Stmt := inClass (top 27) 0
abbrev c_RuledUnder : Stmt := top 28
abbrev s_RuledUnder_init : Stmt := inClass (top 28) 0
abbrev c_SteppedOver : Stmt := top 29
abbrev s_SteppedOver_init : Stmt := inClass (top 29) 0
abbrev c_SteppedUnder : Stmt := top 30
abbrev s_SteppedUnder_init : Stmt := inClass (top 30) 0
abbrev s_fold_of : Stmt := top 31
abbrev s_amount_in : Stmt := top 33
abbrev c_Words : Stmt := top 34
abbrev s_Words_init : Stmt := inClass (top 34) 0
abbrev s_Words_upcoming : Stmt := inClass (top 34) 1
abbrev s_Words_refuse : Stmt := inClass (top 34) 2
abbrev s_Words_put_back : Stmt := inClass (top 34) 3
abbrev s_Words_take : Stmt := inClass (top 34) 4
abbrev s_Words_take_word : Stmt := inClass (top 34) 5
abbrev s_Words_take_amount : Stmt := inClass (top 34) 6
abbrev s_Words_take_above : Stmt := inClass (top 34) 7
abbrev s_Words_take_from : Stmt := inClass (top 34) 8
abbrev s_Words_is_over : Stmt := inClass (top 34) 9
abbrev s_Words_close : Stmt := inClass (top 34) 10
abbrev s_is_index : Stmt := top 37
abbrev s_take_fold : Stmt := top 38
abbrev c_Sheet : Stmt := top 39
abbrev s_Sheet_init : Stmt := inClass (top 39) 1
abbrev s_Sheet_read : Stmt := inClass (top 39) 2
abbrev s_Sheet_measure : Stmt := inClass (top 39) 3
abbrev s_Sheet_has_room : Stmt := inClass (top 39) 4
abbrev s_Sheet_greatest_crease : Stmt := inClass (top 39) 5
abbrev s_Sheet_least_crease : Stmt := inClass (top 39) 6
abbrev s_Sheet_length : Stmt := inClass (top 39) 7
abbrev s_Sheet_folds : Stmt := inClass (top 39) 8
abbrev s_Sheet_creases : Stmt := inClass (top 39) 9
abbrev s_Sheet_offs : Stmt := inClass (top 39) 10
abbrev s_Sheet_panels : Stmt := inClass (top 39) 11
abbrev s_Sheet_cut : Stmt := inClass (top 39) 12
abbrev s_Sheet_firm : Stmt := inClass (top 39) 13
abbrev s_Sheet_panel_of : Stmt := inClass (top 39) 14
abbrev s_Sheet_lets : Stmt := inClass (top 39) 15
abbrev s_Sheet_times : Stmt := inClass (top 39) 16
abbrev s_Sheet_turned : Stmt := inClass (top 39) 17
abbrev s_Sheet_len : Stmt := inClass (top 39) 18
abbrev s_Sheet_iter : Stmt := inClass (top 39) 19
abbrev s_Sheet_getitem : Stmt := inClass (top 39) 20
abbrev s_Sheet_eq : Stmt := inClass (top 39) 21
abbrev s_Sheet_str : Stmt := inClass (top 39) 22
abbrev c_Form : Stmt := top 41
abbrev s_Form_init : Stmt := inClass (top 41) 0
abbrev s_Form_len : Stmt := inClass (top 41) 1
abbrev s_Form_call : Stmt := inClass (top 41) 2
abbrev s_Form_spread : Stmt := inClass (top 41) 3
abbrev s_Form_least : Stmt := inClass (top 41) 4
abbrev s_Form_greatest : Stmt := inClass (top 41) 5
abbrev s_Form_add : Stmt := inClass (top 41) 6
abbrev s_Form_radd : Stmt := inClass (top 41) 7
abbrev s_Form_sub : Stmt := inClass (top 41) 8
abbrev s_Form_rsub : Stmt := inClass (top 41) 9
abbrev s_Form_neg : Stmt := inClass (top 41) 10
abbrev s_Form_mul : Stmt := inClass (top 41) 11
abbrev s_Form_rmul : Stmt := inClass (top 41) 12
abbrev s_Form_eq : Stmt := inClass (top 41) 13
abbrev s_Form_str : Stmt := inClass (top 41) 14
abbrev s_words_of : Stmt := top 42
abbrev s_law_pen : Stmt := top 44
abbrev s_law_draw : Stmt := top 45
abbrev s_law_pick : Stmt := top 46
abbrev s_law_part : Stmt := top 47
abbrev s_law_word : Stmt := top 48
abbrev s_law_text : Stmt := top 49
abbrev s_law_made : Stmt := top 50
abbrev s_law_near : Stmt := top 51
abbrev s_law : Stmt := top 52
end SP
set_option Elab.async false
set_option linter.all false
set_option maxRecDepth 100000
set_option maxHeartbeats 2000000
/-! Rules for instances with own methods for signs. -/
namespace SP
open PySem PySem.Spec PyProof.Rows L2
section
variable {X : Cx} {CX : CXT} {pins : List (Addr × Obj)} {σ : L2.St} {H : Hp} {s : Shared} {a C dx g : Addr} {fs : List (Str × V)} {n : Nat} {sp : Sp} {E : XK}
theorem ins_inst (I : Inv X pins σ H s) (h : H a = some (.ins C dx fs)) : ∃ od, PySem.W.InstAt s.heap a (PySem.W.instObj C dx) C (some od) := by
  obtain ⟨mA, J, _⟩ := ins_get I.hok h
  obtain ⟨od, J, _⟩ := J.look
  exact ⟨od, J⟩
/-- x op y by the def of x's class, y of any kind -/
def rCmpO (K : PySem.W.Frag) (C : Addr) (sp : Sp) (E : XK) : R2 := fun x y H Q => ∃ a dx fs t, x = .ref a ∧ H a = some (.ins C dx fs) ∧ TyX K H y t ∧ PySem.W.notFirst K C t = true ∧ sp [x, y] H Q E
theorem op_cmpO {op : CmpOp} (hop : ∀ a b, compareOp op a b = richCompare op a b) (hs : PySem.W.findIn X.K (.ref C) (cmpInfo op).2.1 = some (some (.ref g))) (hf : PySem.W.isFn X.K (.ref g) = true)
    (F : FnR X.prog X.w X.K X.mg X.base CX n g sp) (hr : Room n X.A) (hx : Passes CX X E) : OpR X (compareOp op) (rCmpO X.K C sp E) := by
  intro pins s σ H x y v u Q I rx ry h
  obtain ⟨a, dx, fs, t, rfl, ha, ty, hn, q⟩ := h
  cases (show v = Value.ref a from rx)
  obtain ⟨od, J⟩ := ins_inst I ha
  obtain ⟨P, kx, hp, _⟩ := kit_of I ry ty
  obtain ⟨m, hF⟩ := I.fr
  rw [hop]
  refine PySem.W.cmp_K (op := op) (tb := t) hr.units0 hF I.ok.mod.kin J (kx.ty _ _ I.kIn hp) hn hs hf ?_
  refine wpAny_mono (wpAny_call (run_fnR (us := [.ref a, u]) (vs := [.ref a, y]) F hr hx I (.cons rfl (.cons ry .nil)) q)) (fun w s' z => ?_) fun _ _ x => x
  obtain ⟨z', H', I', rz, qz⟩ := z
  exact SlX.cmpback rz ⟨z', H', I', rz, qz⟩
/-- x != y by the class's own == (no own !=) -/
def rNeO (K : PySem.W.Frag) (C : Addr) (sp : Sp) (E : XK) : R2 := fun x y H Q => ∃ a dx fs t, x = .ref a ∧ H a = some (.ins C dx fs) ∧ TyX K H y t ∧ PySem.W.notFirst K C t = true ∧ sp [x, y] H (fun v H' => ∃ b, v = .bl b ∧ Q (.bl (!b)) H') E
theorem bound_builtin {M : Model} {A : Around} {E : Value → Shared → Prop} {s : Shared} {K : PySem.W.Frag} {x C : Addr} {ox : Obj} {od : Option Obj} {name : Str} {id : String} {args : List Value} {Q : Option Value → Shared → Prop} (X : K.In s.heap) (I : PySem.W.InstAt s.heap x ox C od)
    (hs : PySem.W.findIn K (.ref C) name = some (some (.builtin id))) (hb : ∀ self, bindSpecial (.builtin id) self = pure (.builtin id, [self]))
    (h : wpAny M A (call (.builtin id) (.ref x :: args)) (fun v => Q (some v)) E s) : wpAny M A (callSpecialIfBound? (.ref x) name args) Q E s := by
  simp only [callSpecialIfBound?, bindSpecialIfBound?]
  refine wpAny_holding (wpAny_bind (wpAny_bind (wpAny_bind (I.type.here ((PySem.W.looks_findIn X hs).here ?_)))))
  refine wpAny_bind (wpAny_askSetting (wpAny_ite ?_))
  have fin : wpAny M A (call (.builtin id) ([.ref x] ++ args) >>= fun v => pure (some v)) Q E s := wpAny_bind (wpAny_mono h (fun v s' h' => wpAny_pure h') fun _ _ h' => h')
  split
  · exact wpAny_bind ((PySem.W.Looks.of_pure (hb _)).here (wpAny_pure (by exact fin)))
  · exact wpAny_tryCatch (wpAny_bind ((PySem.W.Looks.of_pure (hb _)).here (wpAny_pure (by exact fin))))
theorem slot_object_ne : Slot "object" "__ne__" "object.__ne__" :=
  .of (owner := "object") (n := "__ne__") (by rw [typeLookup_type, builtinLookup_eq_fast]; kernel_rfl) (by decide +kernel) (by decide +kernel) (by decide +kernel) (by first | exact .inl (by decide +kernel) | exact .inr (by decide +kernel)) (by rw [isSubtype_type]; kernel_rfl)
theorem op_neO (hne : PySem.W.findIn X.K (.ref C) "__ne__" = some (some (.builtin "object.__ne__"))) (hm : PySem.W.mroIn X.K C (.type "object") = some true) (hs : PySem.W.findIn X.K (.ref C) "__eq__" = some (some (.ref g))) (hf : PySem.W.isFn X.K (.ref g) = true)
    (F : FnR X.prog X.w X.K X.mg X.base CX n g sp) (hr : Room (n + 1) X.A) (hx : Passes CX X E) : OpR X (compareOp .NotEq) (rNeO X.K C sp E) := by
  intro pins s σ H x y v u Q I rx ry h
  obtain ⟨a, dx, fs, t, rfl, ha, ty, hn, q⟩ := h
  cases (show v = Value.ref a from rx)
  obtain ⟨od, J⟩ := ins_inst I ha
  obtain ⟨P, kx, hp, _⟩ := kit_of I ry ty
  have KX := I.kIn
  have hb := kx.ty (model X.prog X.w) _ I.kIn hp
  have hu0 : X.A.units < cLine := hr.units0
  have hu1 : X.A.in1.units < cLine := hr.in1.units0
  have one : wpAny (model X.prog X.w) X.A (tryCompare (.ref a) "__ne__" u) (fun r s' => ∃ v, r = some v ∧ EP X pins σ Q v s') X.xe s := by
    unfold tryCompare
    refine wpAny_bind (bound_builtin KX J hne slot_object_ne.bind ?_)
    refine wpAny_call (codeAny_call_builtin slot_object_ne.plain PySem.F.cmpEntry_ne (PySem.W.check_slot (i := "object.__ne__") (owner := "object") (n := "__ne__") (by decide +kernel) (by decide +kernel) (J.type.andThen (PySem.W.looks_mroIn KX hm)) (PySem.F.cmpArgs_ne _ _) ?_))
    unfold Builtin.«object.__ne__»
    refine wpAny_bind (m := slotArgs "__ne__" 1 _) (wpAny_pure ?_)
    refine wpAny_bind (m := cRoomFor _ _) (wpAny_cRoomFor hu1 ?_)
    refine wpAny_bind (m := callSpecialIfBound? (.ref a) (Str.ofString "__eq__") _) (PySem.W.ifBound_K KX J hs hf ?_)
    refine wpAny_mono (wpAny_call (SlX.run_at (us := [.ref a, u]) (ws := [.ref a, y]) F hr.in1 I.env0.in1 hx I (.cons rfl (.cons ry .nil)) q)) (fun w s' z => ?_) fun _ _ x => x
    obtain ⟨z', H', I', rz, b, rfl, qz⟩ := z
    cases (show w = Value.bool b from rz)
    refine wpAny_bind (m := truthy (.bool b)) (wpAny_truthy_bool ?_)
    refine wpAny_pure ?_
    exact wpAny_pure ⟨_, rfl, .bl (!b), H', I', rfl, qz⟩
  show wpAny (model X.prog X.w) X.A (richCompare .NotEq (.ref a) u) _ _ _
  unfold richCompare
  simp only [oneThing_ref]
  refine wpAny_holding (wpAny_bind (wpAny_cRoomFor hu0 ?_))
  refine wpAny_bind (J.type.here (wpAny_bind (hb.here ?_)))
  split
  · rename_i q
    have e : PySem.W.subIn X.K t (.ref C) = some false := by
      rcases Bool.or_eq_true_iff.mp hn with e | e
      · rw [beq_iff_eq.mp e] at q; simp at q
      · exact beq_iff_eq.mp e
    refine wpAny_bind ((PySem.W.looks_subIn KX e).here ?_)
    simp only [Bool.false_eq_true, if_false]
    refine wpAny_bind (wpAny_mono one (fun r s' z => ?_) fun _ _ e => e)
    obtain ⟨v, rfl, hq⟩ := z
    exact wpAny_pure hq
  · refine wpAny_bind (wpAny_pure ?_)
    simp only [Bool.false_eq_true, if_false]
    refine wpAny_bind (wpAny_mono one (fun r s' z => ?_) fun _ _ e => e)
    obtain ⟨v, rfl, hq⟩ := z
    exact wpAny_pure hq
end
end SP
set_option Elab.async false
set_option linter.all false
set_option maxRecDepth 100000
set_option maxHeartbeats 2000000
namespace SP
open PySem PySem.Spec PyProof.Rows L2
/-- C.m is a staticmethod: its record at p, its def at g -/
structure SMet (K : PySem.W.Frag) (C : Addr) (mc : Value) (m : Str) (p g : Addr) : Prop where
  at_ : PySem.W.findCls K (.ref C) mc m = some (.get (.builtin "staticmethod.__get__") (.ref p) .none (.ref C))
  rc : ∃ rest, PySem.W.recIn K p "staticmethod" = some (.ref g :: rest)
  kp : PySem.W.keepIn K (.ref g) = true
def tSMeth (C : Addr) (sp : Sp) (E : XK) (ta : TE) (t : TA) : TE := fun σ H Q => ta σ H fun x H1 => x = .ref C ∧ t σ H1 fun vs H2 => sp vs H2 Q E
section
variable {X : Cx} {CX : CXT} {pins : List (Addr × Obj)} {σ : L2.St} {H : Hp} {s : Shared} {a C dx g p : Addr} {fs : List (Str × V)} {n k : Nat} {sp : Sp} {E : XK} {mc : Value} {m : Str} {o e : Expr} {es : List Expr} {pos apos : Pos} {ta : TE} {t : TA} {pl : Sem Bool}
theorem pe_smeth (he : PE X o ta) (r : ClX.CRead X.K C mc) (c : SMet X.K C mc m p g) (F : FnR X.prog X.w X.K X.mg X.base CX k g sp) (hr : Room k X.A) (hx : Passes CX X E) (ha : PA X (e :: es) t)
    (hst : starEach (e :: es) X.env = (false, eval e X.env) :: starEach es X.env := by rfl) (hpl : (backTo pos (starEach es X.env)).any (·.1) = false := by rfl)
    (ht : eval (.Call (.Attribute o m apos) (e :: es) [] pos) X.env = (do
      let ov ← eval o X.env
      standAt apos.atName
      let (f, first) ← holding [ov] (getMethod ov m pl)
      callWith pos f first (backTo pos (starEach (e :: es) X.env)) (backToKw pos (keywordEach [] X.env))) := by rfl) :
    PE X (.Call (.Attribute o m apos) (e :: es) [] pos) (tSMeth C sp E ta t) := by
  refine ⟨fun pins s σ H Q I h => ?_⟩
  refine PySem.W.methodCall_KW (pl := pl) (thn (he.run pins s σ H _ I h) fun u s1 ⟨x, H1, I1, rx, ex, q⟩ => ?_) ht
  subst ex
  obtain rfl : u = Value.ref C := rx
  obtain ⟨rest, hp⟩ := c.rc
  refine PySem.W.method_cls I1.kIn r.ga (PySem.W.cls_bind I1.kIn r.rd c.at_ (wpAny_call (PySem.W.sm_get (s := { s1 with toks := s1.toks + 1 }) I1.kIn hp (PySem.W.handed_on rfl ?_))))
  have I2 : Inv X pins σ H1 { s1 with toks := s1.toks + 1 } := I1.tok _
  refine PySem.W.callWith_K (h₀ := X.base) I2.ok.mod.kin c.kp (thn (ha.run pos pins _ σ H1 _ I2 q) fun us s3 ⟨vs, H2, I3, rv, q2⟩ => ⟨I3.kIn, ?_⟩) hst hpl
  exact wpAny_call (run_fnR F hr hx I3 rv q2)
theorem pe_smeth0 (he : PE X o ta) (r : ClX.CRead X.K C mc) (c : SMet X.K C mc m p g) (F : FnR X.prog X.w X.K X.mg X.base CX k g sp) (hr : Room k X.A) (hx : Passes CX X E)
    (ht : eval (.Call (.Attribute o m apos) [] [] pos) X.env = (do
      let ov ← eval o X.env
      standAt apos.atName
      let (f, first) ← holding [ov] (getMethod ov m pl)
      callWith pos f first (backTo pos (starEach [] X.env)) (backToKw pos (keywordEach [] X.env))) := by rfl) :
    PE X (.Call (.Attribute o m apos) [] [] pos) (tSMeth C sp E ta tNil) := by
  refine ⟨fun pins s σ H Q I h => ?_⟩
  refine PySem.W.methodCall_KW (pl := pl) (thn (he.run pins s σ H _ I h) fun u s1 ⟨x, H1, I1, rx, ex, q⟩ => ?_) ht
  subst ex
  obtain rfl : u = Value.ref C := rx
  obtain ⟨rest, hp⟩ := c.rc
  refine PySem.W.method_cls I1.kIn r.ga (PySem.W.cls_bind I1.kIn r.rd c.at_ (wpAny_call (PySem.W.sm_get (s := { s1 with toks := s1.toks + 1 }) I1.kIn hp (PySem.W.handed_on rfl ?_))))
  have I2 : Inv X pins σ H1 { s1 with toks := s1.toks + 1 } := I1.tok _
  exact PySem.W.callWith_K0 I2.kIn c.kp (wpAny_call (run_fnR (us := []) F hr hx I2 .nil q))
/-- a one-place sign, abs, by the class's own def -/
def rUnO (C : Addr) (sp : Sp) (E : XK) : V → Hp → VK → Prop := fun x H Q => ∃ a dx fs, x = .ref a ∧ H a = some (.ins C dx fs) ∧ sp [x] H Q E
theorem un_negO (hs : PySem.W.findIn X.K (.ref C) "__neg__" = some (some (.ref g))) (hf : PySem.W.isFn X.K (.ref g) = true) (F : FnR X.prog X.w X.K X.mg X.base CX n g sp) (hr : Room n X.A) (hx : Passes CX X E) : UnR X (unaryOp .USub) (rUnO C sp E) := by
  intro pins s σ H x v Q I rx h
  obtain ⟨a, dx, fs, rfl, ha, q⟩ := h
  cases (show v = Value.ref a from rx)
  obtain ⟨od, J⟩ := ins_inst I ha
  unfold unaryOp
  refine wpAny_holding ?_
  rw [show ((UnaryOp.USub == UnaryOp.Not) = false) from rfl]
  simp only [Bool.false_eq_true, if_false]
  refine wpAny_bind (PySem.W.special_fn I.kIn J hs (beq_iff_eq.mp hf) (wpAny_mono (wpAny_call (run_fnR (us := [.ref a]) (vs := [.ref a]) F hr hx I (.cons rfl .nil) q)) (fun w s' z => ?_) fun _ _ x => x))
  exact wpAny_pure z
def rUnC (C : Addr) (sp : Sp) (E : XK) : List V → Hp → VK → Prop := fun xs H Q => ∃ a dx fs, xs = [.ref a] ∧ H a = some (.ins C dx fs) ∧ sp [.ref a] H Q E
theorem call_absO (hs : PySem.W.findIn X.K (.ref C) "__abs__" = some (some (.ref g))) (hf : PySem.W.isFn X.K (.ref g) = true) (F : FnR X.prog X.w X.K X.mg X.base CX n g sp) (hr : Room (n + 1) X.A) (hx : Passes CX X E) : CallR X (.builtin "abs") (rUnC C sp E) := by
  intro pins s σ H xs us Q I r h
  obtain ⟨a, dx, fs, rfl, ha, q⟩ := h
  obtain ⟨u, rfl, ru⟩ := r.one
  cases (show u = Value.ref a from ru)
  obtain ⟨od, J⟩ := ins_inst I ha
  refine PySem.Calls.call_function_entry kind_abs plain_abs entry_abs (args_abs _) ?_
  unfold Builtin.«abs»
  refine wpAny_bind (m := oneArg "abs" _) (wpAny_pure ?_)
  refine wpAny_bind (m := callSpecial? (.ref a) (Str.ofString "__abs__")) (PySem.W.special_fn I.kIn J hs (beq_iff_eq.mp hf) ?_)
  refine wpAny_mono (wpAny_call (SlX.run_at (us := [.ref a]) (ws := [.ref a]) F hr.in1 I.env0.in1 hx I (.cons rfl .nil) q)) (fun w s' z => ?_) fun _ _ x => x
  exact wpAny_pure ⟨_, rfl, z⟩
/-- str(x), f"{x}" by the class's own __str__ -/
def rStrO (C : Addr) (sp : Sp) (E : XK) : List V → Hp → VK → Prop := fun xs H Q => ∃ a dx fs, xs = [.ref a] ∧ H a = some (.ins C dx fs) ∧ sp [.ref a] H (fun v H' => ∃ z, v = .str z ∧ Q v H') E
theorem strback {P : Value → Shared → Prop} {z : Str} {v : Value} {s' : Shared} (r : RelV (.str z) v) (h : P v s') : PySem.W.StrBack P v s' := by
  obtain ⟨t, rfl⟩ := (show ∃ t, v = Value.str z t from r)
  exact h
theorem call_strO (hs : PySem.W.findIn X.K (.ref C) "__str__" = some (some (.ref g))) (hf : PySem.W.isFn X.K (.ref g) = true) (F : FnR X.prog X.w X.K X.mg X.base CX n g sp) (hr : Room (n + 2) X.A) (hx : Passes CX X E) : CallR X (.type "str") (rStrO C sp E) := by
  intro pins s σ H xs us Q I r h
  obtain ⟨a, dx, fs, rfl, ha, q⟩ := h
  obtain ⟨u, rfl, ru⟩ := r.one
  cases (show u = Value.ref a from ru)
  obtain ⟨od, J⟩ := ins_inst I ha
  have hr2 : Room n X.A.in1.in1 := (show Room (n + 1) X.A.in1 from Room.in1 hr).in1
  refine PySem.W.kso_call hr2.units0 I.kIn J hs hf (wpAny_mono (wpAny_call (SlX.run_at (us := [.ref a]) (ws := [.ref a]) F hr2 I.env0.in1.in1 hx I (.cons rfl .nil) q)) (fun w s' z => ?_) fun _ _ x => x)
  obtain ⟨z', H', I', rz, y, rfl, qz⟩ := z
  exact strback rz ⟨_, H', I', rz, qz⟩
/-- {x}, x an instance with an own __str__ -/
def tFmtO (C : Addr) (sp : Sp) (E : XK) (te : TE) : TE := fun σ H Q => te σ H fun x H1 => ∃ a dx fs, x = .ref a ∧ H1 a = some (.ins C dx fs) ∧ sp [.ref a] H1 (fun v H' => ∃ z, v = .str z ∧ Q v H') E
theorem pe_fmtO {e : Expr} {te : TE} {pos : Pos} (he : PE X e te) (hfm : PySem.W.findIn X.K (.ref C) "__format__" = some (some (.builtin "object.__format__"))) (hm : PySem.W.mroIn X.K C (.type "object") = some true)
    (hs : PySem.W.findIn X.K (.ref C) "__str__" = some (some (.ref g))) (hf : PySem.W.isFn X.K (.ref g) = true) (F : FnR X.prog X.w X.K X.mg X.base CX n g sp) (hr : Room (n + 1) X.A) (hx : Passes CX X E) :
    PE X (.FormattedValue e (-1) none pos) (tFmtO C sp E te) := by
  refine ⟨fun pins s σ H Q I h => ?_⟩
  refine wpAny_FormattedValue_plain (thn (he.run pins s σ H _ I h) fun v s1 hv => ?_)
  obtain ⟨x, H1, I1, r1, a, dx, fs, rfl, ha, q⟩ := hv
  cases (show v = Value.ref a from r1)
  obtain ⟨od, J⟩ := ins_inst I1 ha
  have I2 : Inv X pins σ H1 { s1 with toks := s1.toks + 1 } := I1.tok _
  refine PySem.W.kfo_fieldS hr.in1.units0 I1.kIn J hfm hm hs hf ?_
  refine wpAny_mono (wpAny_call (SlX.run_at (us := [.ref a]) (ws := [.ref a]) F hr.in1 I2.env0.in1 hx I2 (.cons rfl .nil) q)) (fun w s' z => ?_) fun _ _ x => x
  obtain ⟨z', H', I', rz, y, rfl, qz⟩ := z
  exact strback rz ⟨_, H', I', rz, qz⟩
end
end SP
set_option Elab.async false
set_option linter.all false
set_option maxRecDepth 100000
set_option maxHeartbeats 2000000
namespace SP
open PySem PySem.Spec PyProof.Rows L2
section
variable {prog : Program} {w : World} {A : Around} {E : Value → Shared → Prop} {s : Shared} {K : PySem.W.Frag} {x C f : Addr} {ox : Obj} {od : Option Obj}
theorem slotpy_K {M : Model} {h : Heap} {nm : String} {r : Option Value} (X : K.In h) (hs : PySem.W.findIn K (.ref C) (PySem.dunder nm) = some (some (.ref f))) (hr : PySem.W.findIn K (.ref C) (PySem.dunderR nm) = some r) (hro : ∀ id, r ≠ some (.builtin id)) :
    PySem.W.Looks M h (numberSlotInPython (.ref C) nm) true := by
  intro A Q E s k q
  unfold numberSlotInPython
  refine wpAny_bind (PySem.W.looks_findIn X hs A _ E s k ?_)
  refine wpAny_bind (wpAny_pure ?_)
  refine wpAny_bind (PySem.W.looks_findIn X hr A _ E s k ?_)
  have fin : ∀ b : Bool, wpAny M A (pure b) (fun r s' => wpAny M A (if (true || r) = true then pure true else do
      if !isSeqSlot (← typeLookup (.ref C) (PySem.dunder nm)) then return false
      (← mroOf (.ref C)).anyM fun
        | .type _ => pure false
        | c => do
          let f ← calledByName c (PySem.dunder nm) (← typeLookup c (PySem.dunder nm))
          let r ← calledByName c (PySem.dunderR nm) (← typeLookup c (PySem.dunderR nm))
          return f || r) Q E s') E s := fun b => wpAny_pure (by
    rw [Bool.true_or]
    exact wpAny_pure q)
  cases r with
  | none => exact wpAny_bind (fin false)
  | some v =>
    cases v with
    | builtin id => exact absurd rfl (hro id)
    | _ => exact wpAny_bind (fin true)
/-- x op b, b of a built-in type -/
theorem binop_left {T : String} {op : Operator} {b : Value} {fr : Bool} {y r : Option Value} {Q : Value → Shared → Prop} (X : K.In s.heap) (I : PySem.W.InstAt s.heap x ox C od) (hb : PySem.W.Looks (model prog w) s.heap (typeOf b) (.type T)) (hc : PySem.W.selfFirst K C = true)
    (hs : PySem.W.findIn K (.ref C) (PySem.dunder op.info.2) = some (some (.ref f))) (hf : PySem.W.isFn K (.ref f) = true) (hr : PySem.W.findIn K (.ref C) (PySem.dunderR op.info.2) = some r) (hro : ∀ id, r ≠ some (.builtin id))
    (hfill : fillsNumberSlot (.type T) op.info.2 = pure fr) (hsub : PySem.W.subIn K (.type T) (.ref C) = some false) (hlk : typeLookup (.type T) (PySem.dunderR op.info.2) = pure y)
    (h : wpAny (model prog w) A (call (.ref f) [.ref x, b]) (PySem.W.CmpBack Q) E s) : wpAny (model prog w) A (binaryOp op (.ref x) b) Q E s := by
  obtain ⟨cd, hcd, hm⟩ := PySem.W.any_some hc
  obtain ⟨rest, hm⟩ : ∃ rest, cd.mro = .ref C :: rest := by
    cases q : cd.mro with
    | nil => rw [q] at hm; cases hm
    | cons a r => rw [q] at hm; exact ⟨r, by rw [List.head?_cons] at hm; cases (beq_iff_eq.mp hm); rfl⟩
  have fin : wpAny (model prog w) A (tryMethod (.ref x) (PySem.dunder op.info.2) b) (fun r s' => ∃ v, r = some v ∧ Q v s') E s := by
    unfold tryMethod
    refine wpAny_bind (PySem.W.special_fn X I hs (beq_iff_eq.mp hf) (wpAny_mono h (fun v s' hv => ?_) fun _ _ e => e))
    cases v <;> first | exact hv.elim | exact wpAny_pure ⟨_, rfl, hv⟩
  unfold binaryOp
  refine wpAny_holding (wpAny_bind ?_)
  unfold binaryOp1
  refine wpAny_bind (I.type.here (wpAny_bind (hb.here (wpAny_bind ((PySem.W.fills_K X hcd hm hs).here ?_)))))
  rw [show (Value.ref C == Value.type T) = false from rfl]
  simp only [Bool.false_eq_true, if_false]
  refine wpAny_bind (wpAny_of_eq hfill ?_)
  cases fr with
  | false =>
    simp only [Bool.and_false, Bool.false_eq_true, if_false, Bool.true_and, Bool.false_and]
    refine wpAny_bind (wpAny_pure ?_)
    simp only [Bool.false_eq_true, if_false, if_true]
    refine wpAny_bind (wpAny_mono fin (fun r s' z => ?_) fun _ _ e => e)
    obtain ⟨v, rfl, hq⟩ := z
    exact wpAny_pure (wpAny_pure hq)
  | true =>
    simp only [Bool.and_self, if_true, Bool.true_and]
    refine wpAny_bind ((PySem.W.looks_subIn X hsub).here ?_)
    simp only [Bool.false_eq_true, if_false, Bool.not_false, Bool.and_self, if_true]
    refine wpAny_bind ((slotpy_K X hs hr hro).here ?_)
    simp only [if_true]
    refine wpAny_bind (wpAny_of_eq (show numberSlotInPython (.type T) op.info.2 = pure false from rfl) ?_)
    simp only [Bool.not_false, if_true]
    refine wpAny_bind (wpAny_of_eq hlk ?_)
    refine wpAny_bind (wpAny_mono fin (fun r s' z => ?_) fun _ _ e => e)
    obtain ⟨v, rfl, hq⟩ := z
    exact wpAny_pure (wpAny_pure hq)
end
end SP
set_option Elab.async false
set_option linter.all false
set_option maxRecDepth 100000
set_option maxHeartbeats 400000
namespace SP
open PySem PySem.Spec PyProof.Rows L2
section
variable {prog : Program} {w : World} {A : Around} {E : Value → Shared → Prop} {s : Shared} {K : PySem.W.Frag} {x C f : Addr} {ox : Obj} {od : Option Obj}
theorem asInt_ref {M : Model} {ox : Obj} {Q : Option Int → Shared → Prop} (h : s.heap.get? x = some ox) (hd : ∀ p, ox.data ≠ .prim p) (q : Q none s) : wpAny M A (asInt? (.ref x)) Q E s := by
  unfold asInt?
  refine wpAny_bind (wpAny_load h ?_)
  cases e : ox.data with
  | prim p => exact absurd e (hd p)
  | _ => exact wpAny_pure q
theorem intBin_ref {name : String} {g : Int → Int → Sem Fin} {rf : Bool} {i : Int} {t : Tok} {ox : Obj} {Q : Fin → Shared → Prop} (h : s.heap.get? x = some ox) (hd : ∀ p, ox.data ≠ .prim p) (hq : Q (.done (.ret .notImplemented)) s) :
    wpAny (model prog w) A (Builtin.Int.intBinary name g rf ⟨[.int i t, .ref x], []⟩) Q E s := by
  unfold Builtin.Int.intBinary
  refine wpAny_bind (m := slotArgs name 1 _) (wpAny_pure ?_)
  refine wpAny_bind (m := Builtin.Int.intOfSelf (.int i t)) (wpAny_pure ?_)
  refine wpAny_bind (m := asInt? _) (asInt_ref h hd ?_)
  refine wpAny_bind (wpAny_rule ?_)
  exact wpAny_pure hq
/-- i op x, i an int, x an instance with the reflected method -/
theorem binop_right {op : Operator} {i : Int} {t : Tok} {fl : Addr} {Q : Value → Shared → Prop} (X : K.In s.heap) (I : PySem.W.InstAt s.heap x ox C od) (hc : PySem.W.selfFirst K C = true)
    (hs : PySem.W.findIn K (.ref C) (PySem.dunder op.info.2) = some (some (.ref fl))) (hr : PySem.W.findIn K (.ref C) (PySem.dunderR op.info.2) = some (some (.ref f))) (hf : PySem.W.isFn K (.ref f) = true)
    (hfill : fillsNumberSlot (.type "int") op.info.2 = pure true) (hsub : PySem.W.subIn K (.ref C) (.type "int") = some false)
    (hl : ∀ {Q : Option Value → Shared → Prop}, Q none s → wpAny (model prog w) A (tryMethod (.int i t) (PySem.dunder op.info.2) (.ref x)) Q E s)
    (h : wpAny (model prog w) A (call (.ref f) [.ref x, .int i t]) (PySem.W.CmpBack Q) E s) : wpAny (model prog w) A (binaryOp op (.int i t) (.ref x)) Q E s := by
  obtain ⟨cd, hcd, hm⟩ := PySem.W.any_some hc
  obtain ⟨rest, hm⟩ : ∃ rest, cd.mro = .ref C :: rest := by
    cases q : cd.mro with
    | nil => rw [q] at hm; cases hm
    | cons a r => rw [q] at hm; exact ⟨r, by rw [List.head?_cons] at hm; cases (beq_iff_eq.mp hm); rfl⟩
  have fin : wpAny (model prog w) A (tryMethod (.ref x) (PySem.dunderR op.info.2) (.int i t)) (fun r s' => ∃ v, r = some v ∧ Q v s') E s := by
    unfold tryMethod
    refine wpAny_bind (PySem.W.special_fn X I hr (beq_iff_eq.mp hf) (wpAny_mono h (fun v s' hv => ?_) fun _ _ e => e))
    cases v <;> first | exact hv.elim | exact wpAny_pure ⟨_, rfl, hv⟩
  unfold binaryOp
  refine wpAny_holding (wpAny_bind ?_)
  unfold binaryOp1
  refine wpAny_bind (wpAny_of_eq (show typeOf (.int i t) = pure (.type "int") from rfl) (wpAny_bind (I.type.here (wpAny_bind (wpAny_of_eq hfill ?_)))))
  rw [show (Value.type "int" == Value.ref C) = false from rfl]
  simp only [Bool.false_eq_true, if_false]
  refine wpAny_bind ((PySem.W.fills_K X hcd hm hs).here ?_)
  simp only [Bool.and_self, if_true, Bool.true_and]
  refine wpAny_bind ((PySem.W.looks_subIn X hsub).here ?_)
  simp only [Bool.false_eq_true, if_false, Bool.not_false, Bool.and_self, if_true]
  refine wpAny_bind (wpAny_of_eq (show numberSlotInPython (.type "int") op.info.2 = pure false from rfl) ?_)
  simp only [Bool.false_eq_true, if_false]
  refine wpAny_bind (hl ?_)
  dsimp only
  refine wpAny_bind (wpAny_mono fin (fun r s' z => ?_) fun _ _ e => e)
  obtain ⟨v, rfl, hq⟩ := z
  refine wpAny_bind (wpAny_rule ?_)
  exact wpAny_pure (wpAny_pure hq)
end
/-! ### as rules of the layer -/
/-- x op y: x an instance of C; y an instance of C, or a value of a built-in type -/
def rBinO (C : Addr) (sp : Sp) (E : XK) : R2 := fun x y H Q => ∃ a dx fs b dy gs, x = .ref a ∧ y = .ref b ∧ H a = some (.ins C dx fs) ∧ H b = some (.ins C dy gs) ∧ sp [x, y] H Q E
def rBinL (K : PySem.W.Frag) (C : Addr) (nm : String) (sp : Sp) (E : XK) : R2 := fun x y H Q => ∃ a dx fs T fr z, x = .ref a ∧ H a = some (.ins C dx fs) ∧ TyX K H y (.type T) ∧ fillsNumberSlot (.type T) nm = pure fr ∧ PySem.W.subIn K (.type T) (.ref C) = some false ∧ typeLookup (.type T) (PySem.dunderR nm) = pure z ∧ sp [x, y] H Q E
def rBinR (C : Addr) (sp : Sp) (E : XK) : R2 := fun x y H Q => ∃ i b dy gs, x = .int i ∧ y = .ref b ∧ H b = some (.ins C dy gs) ∧ sp [y, x] H Q E
section
variable {X : Cx} {CX : CXT} {pins : List (Addr × Obj)} {σ : L2.St} {H : Hp} {s : Shared} {a C dx g fl : Addr} {fs : List (Str × V)} {n : Nat} {sp : Sp} {E : XK} {op : Operator} {r : Option Value}
theorem op_binO (hc : PySem.W.selfFirst X.K C = true) (hs : PySem.W.findIn X.K (.ref C) (PySem.dunder op.info.2) = some (some (.ref g))) (hf : PySem.W.isFn X.K (.ref g) = true)
    (F : FnR X.prog X.w X.K X.mg X.base CX n g sp) (hr : Room n X.A) (hx : Passes CX X E) : OpR X (binaryOp op) (rBinO C sp E) := by
  intro pins s σ H x y v u Q I rx ry h
  obtain ⟨a, dx, fs, b, dy, gs, rfl, rfl, ha, hb, q⟩ := h
  cases (show v = Value.ref a from rx)
  cases (show u = Value.ref b from ry)
  obtain ⟨od, J⟩ := ins_inst I ha
  obtain ⟨od', J'⟩ := ins_inst I hb
  obtain ⟨m, hF⟩ := I.fr
  refine PySem.W.binop_K hF I.ok.mod.kin J J'.type hc hs hf ?_
  refine wpAny_mono (wpAny_call (run_fnR (us := [.ref a, .ref b]) (vs := [.ref a, .ref b]) F hr hx I (.cons rfl (.cons rfl .nil)) q)) (fun w s' z => ?_) fun _ _ x => x
  obtain ⟨z', H', I', rz, qz⟩ := z
  exact SlX.cmpback rz ⟨z', H', I', rz, qz⟩
theorem op_binL (hc : PySem.W.selfFirst X.K C = true) (hs : PySem.W.findIn X.K (.ref C) (PySem.dunder op.info.2) = some (some (.ref g))) (hf : PySem.W.isFn X.K (.ref g) = true) (hr' : PySem.W.findIn X.K (.ref C) (PySem.dunderR op.info.2) = some r) (hro : ∀ id, r ≠ some (.builtin id))
    (F : FnR X.prog X.w X.K X.mg X.base CX n g sp) (hr : Room n X.A) (hx : Passes CX X E) : OpR X (binaryOp op) (rBinL X.K C op.info.2 sp E) := by
  intro pins s σ H x y v u Q I rx ry h
  obtain ⟨a, dx, fs, T, fr, z, rfl, ha, ty, h1, h2, h3, q⟩ := h
  cases (show v = Value.ref a from rx)
  obtain ⟨od, J⟩ := ins_inst I ha
  obtain ⟨P, kx, hp, _⟩ := kit_of I ry ty
  refine binop_left I.kIn J (kx.ty _ _ I.kIn hp) hc hs hf hr' hro h1 h2 h3 ?_
  refine wpAny_mono (wpAny_call (run_fnR (us := [.ref a, u]) (vs := [.ref a, y]) F hr hx I (.cons rfl (.cons ry .nil)) q)) (fun w s' z => ?_) fun _ _ x => x
  obtain ⟨z', H', I', rz, qz⟩ := z
  exact SlX.cmpback rz ⟨z', H', I', rz, qz⟩
/-- that int's own method says NotImplemented of an instance -/
def IntNot (op : Operator) : Prop := ∀ (prog : Program) (w : World) (A : Around) (E : Value → Shared → Prop) (s : Shared) (x : Addr) (ox : Obj) (i : Int) (t : Tok) (Q : Option Value → Shared → Prop), s.heap.get? x = some ox → (∀ p, ox.data ≠ .prim p) → Q none s →
  wpAny (model prog w) A (tryMethod (.int i t) (PySem.dunder op.info.2) (.ref x)) Q E s
theorem intNot_add : IntNot .Add := by
  intro prog w A E s x ox i t Q h hd q
  show wpAny (model prog w) A (tryMethod (.int i t) (PySem.dunder "add") (.ref x)) Q E s
  unfold tryMethod
  refine wpAny_bind ?_
  with_reducible refine wpAny_callSpecial?_slot (typeIs_int s i t) PySem.F.slot_int_add ?_
  with_reducible refine wpAny_call_entry PySem.F.slot_int_add (typeIs_int s i t) PySem.F.entry_int_add ?_ (PySem.F.args_int_add_2 _ _)
  unfold Builtin.«int.__add__»
  exact intBin_ref h hd ⟨_, rfl, wpAny_pure q⟩
theorem intNot_sub : IntNot .Sub := by
  intro prog w A E s x ox i t Q h hd q
  show wpAny (model prog w) A (tryMethod (.int i t) (PySem.dunder "sub") (.ref x)) Q E s
  unfold tryMethod
  refine wpAny_bind ?_
  with_reducible refine wpAny_callSpecial?_slot (typeIs_int s i t) PySem.F.slot_int_sub ?_
  with_reducible refine wpAny_call_entry PySem.F.slot_int_sub (typeIs_int s i t) PySem.F.entry_int_sub ?_ (PySem.F.args_int_sub_2 _ _)
  unfold Builtin.«int.__sub__»
  exact intBin_ref h hd ⟨_, rfl, wpAny_pure q⟩
theorem intNot_mul : IntNot .Mult := by
  intro prog w A E s x ox i t Q h hd q
  show wpAny (model prog w) A (tryMethod (.int i t) (PySem.dunder "mul") (.ref x)) Q E s
  unfold tryMethod
  refine wpAny_bind ?_
  with_reducible refine wpAny_callSpecial?_slot (typeIs_int s i t) PySem.F.slot_int_mul ?_
  with_reducible refine wpAny_call_entry PySem.F.slot_int_mul (typeIs_int s i t) PySem.F.entry_int_mul ?_ (PySem.F.args_int_mul_2 _ _)
  unfold Builtin.«int.__mul__»
  exact intBin_ref h hd ⟨_, rfl, wpAny_pure q⟩
theorem intNot_mod : IntNot .Mod := by
  intro prog w A E s x ox i t Q h hd q
  show wpAny (model prog w) A (tryMethod (.int i t) (PySem.dunder "mod") (.ref x)) Q E s
  unfold tryMethod
  refine wpAny_bind ?_
  with_reducible refine wpAny_callSpecial?_slot (typeIs_int s i t) PySem.F.slot_int_mod ?_
  with_reducible refine wpAny_call_entry PySem.F.slot_int_mod (typeIs_int s i t) PySem.F.entry_int_mod ?_ (PySem.F.args_int_mod_2 _ _)
  unfold Builtin.«int.__mod__»
  exact intBin_ref h hd ⟨_, rfl, wpAny_pure q⟩
theorem op_binR (hi : IntNot op) (hfill : fillsNumberSlot (.type "int") op.info.2 = pure true) (hsub : PySem.W.subIn X.K (.ref C) (.type "int") = some false) (hc : PySem.W.selfFirst X.K C = true) (hs : PySem.W.findIn X.K (.ref C) (PySem.dunder op.info.2) = some (some (.ref fl)))
    (hr' : PySem.W.findIn X.K (.ref C) (PySem.dunderR op.info.2) = some (some (.ref g))) (hf : PySem.W.isFn X.K (.ref g) = true)
    (F : FnR X.prog X.w X.K X.mg X.base CX n g sp) (hr : Room n X.A) (hx : Passes CX X E) : OpR X (binaryOp op) (rBinR C sp E) := by
  intro pins s σ H x y v u Q I rx ry h
  obtain ⟨i, b, dy, gs, rfl, rfl, hb, q⟩ := h
  obtain ⟨t, rfl⟩ := (show ∃ t, v = Value.int i t from rx)
  cases (show u = Value.ref b from ry)
  obtain ⟨od, J⟩ := ins_inst I hb
  refine binop_right I.kIn J hc hs hr' hf hfill hsub (fun q => hi _ _ _ _ _ _ _ _ _ _ J.at_ (fun p e => by cases e) q) ?_
  refine wpAny_mono (wpAny_call (run_fnR (us := [.ref b, .int i t]) (vs := [.ref b, .int i]) F hr hx I (.cons rfl (.cons ⟨t, rfl⟩ .nil)) q)) (fun w s' z => ?_) fun _ _ x => x
  obtain ⟨z', H', I', rz, qz⟩ := z
  exact SlX.cmpback rz ⟨z', H', I', rz, qz⟩
end
end SP
set_option Elab.async false
set_option linter.all false
namespace SP
theorem rat_norm {t : Int} {b : Nat} (hb : b ≠ 0) : (mkRat t b).num = t / (Nat.gcd t.natAbs b : Int) ∧ ((mkRat t b).den : Int) = (b : Int) / (Nat.gcd t.natAbs b : Int) := by
  rw [mkRat, dif_neg hb, Rat.normalize_eq]
  exact ⟨rfl, by simp [Int.natCast_ediv]⟩
/-- what Amount.__init__ keeps of a top and a bottom -/
theorem amount_init {t b : Int} (hb : b ≠ 0) : let g : Int := (Nat.gcd t.natAbs b.natAbs : Int)
    t.fdiv (if b < 0 then -g else g) = (Rat.divInt t b).num ∧ b.fdiv (if b < 0 then -g else g) = ((Rat.divInt t b).den : Int) := by
  intro g
  have hg : 0 < g := by
    have : 0 < Nat.gcd t.natAbs b.natAbs := Nat.gcd_pos_of_pos_right _ (by omega)
    omega
  have h1 : g ∣ t := Int.ofNat_dvd_left.mpr (Nat.gcd_dvd_left _ _)
  have h2 : g ∣ b := Int.ofNat_dvd_left.mpr (Nat.gcd_dvd_right _ _)
  obtain ⟨x, hx⟩ := h1
  obtain ⟨y, hy⟩ := h2
  have hgn : g ≠ 0 := by omega
  rcases (show b < 0 ∨ 0 ≤ b by omega) with hlt | hge
  · rw [if_pos hlt]
    have e : Rat.divInt t b = mkRat (-t) b.natAbs := by
      rw [← Rat.neg_divInt_neg]
      rw [show (-b) = (b.natAbs : Int) by omega]
      exact Rat.divInt_ofNat _ _
    obtain ⟨n1, n2⟩ := rat_norm (t := -t) (b := b.natAbs) (by omega)
    rw [e, n1, n2]
    have hgg : ((Nat.gcd (-t).natAbs b.natAbs : Nat) : Int) = g := by simp [g]
    rw [hgg]
    refine ⟨?_, ?_⟩
    · rw [hx]
      rw [show -(g * x) = g * (-x) by grind, Int.mul_ediv_cancel_left _ hgn]
      rw [show g * x = (-g) * (-x) by grind]
      exact Int.mul_fdiv_cancel_left _ (by omega)
    · rw [show (b.natAbs : Int) = g * (-y) by grind, Int.mul_ediv_cancel_left _ hgn]
      rw [show b.fdiv (-g) = ((-g) * (-y)).fdiv (-g) by grind]
      exact Int.mul_fdiv_cancel_left _ (by omega)
  · rw [if_neg (by omega)]
    have e : Rat.divInt t b = mkRat t b.natAbs := by
      rw [show Rat.divInt t b = Rat.divInt t (b.natAbs : Int) by rw [show (b.natAbs : Int) = b by omega]]
      exact Rat.divInt_ofNat _ _
    obtain ⟨n1, n2⟩ := rat_norm (t := t) (b := b.natAbs) (by omega)
    rw [e, n1, n2]
    refine ⟨?_, ?_⟩
    · show t.fdiv g = t / g
      exact Int.fdiv_eq_ediv_of_nonneg _ (by omega)
    · show b.fdiv g = (b.natAbs : Int) / g
      rw [show (b.natAbs : Int) = b by omega]
      exact Int.fdiv_eq_ediv_of_nonneg _ (by omega)
end SP
set_option Elab.async false
set_option linter.all false
set_option maxRecDepth 100000
set_option maxHeartbeats 400000
namespace SP
open PySem PySem.Spec PyProof.Rows L2
abbrev FnP (K : PySem.W.Frag) (x qual : Str) (st : Stmt) (dvs : List V) (f : Addr) (fd : FuncData) : Prop := FunD K x qual (defArgs st) (defBody st) (defScope st) dvs [] f fd
/-- // by any divisor but 0, below 2 ^ 9000 -/
def CDivG (_ j : Int) : Prop := j ≠ 0 ∧ j.natAbs.log2 < 9000
theorem op_fdivG {X : Cx} : OpR X (binaryOp .FloorDiv) (rI CDivG fun i j => .int (i.fdiv j)) := opI fun i j _ _ _ _ _ hc q => floordiv_int hc.1 q (.inl (PyProof.noPylong_of_log2 hc.2))
theorem iteNF {c A B : Prop} [Decidable c] (hc : ¬ c) (h : A) : if (!decide c) = true then A else B := by
  rw [decide_eq_false hc]
  exact iteT h
theorem iteDT {c A B : Prop} [Decidable c] (hc : c) (h : A) : if decide c = true then A else B := by
  rw [decide_eq_true hc]
  exact iteT h
theorem iteDF {c A B : Prop} [Decidable c] (hc : ¬ c) (h : B) : if decide c = true then A else B := by
  rw [decide_eq_false hc]
  exact iteF h
section
variable {P : Program} {w : World} {K : PySem.W.Frag} {mg : Str → Option Value} {base : Heap}
/-! ### is_integer -/
def spIsInt (K : PySem.W.Frag) : Sp := fun vs H Q _ => ∃ (v : V) (t : Value) (b1 b2 : Bool), vs = [v] ∧ TyX K H v t ∧ PySem.W.kitOne K t (.type "int") = some b1 ∧ PySem.W.kitOne K t (.type "bool") = some b2 ∧ Q (.bl (b1 && !b2)) H
theorem sc_ii : FnScope ["value"] ["value"] (defScope s_is_integer) := ⟨rfl, rfl, rfl, by decide +kernel, rfl, by decide +kernel, by decide +kernel⟩
theorem ok_ii {f : Addr} {fd : FuncData} (F : FnP K "is_integer" "is_integer" s_is_integer [] f fd) (mI : mg "isinstance" = none) (mi : mg "int" = none) (mb : mg "bool" = none) : FnOk P w K mg base CX0 1 f fd ["value"] (spIsInt K) := by
  refine F.ok sc_ii (fun vs H Q E h => ?_) (fun cdv A outer s H vs Q E hr h => ?_)
  · obtain ⟨v, t, b1, b2, rfl, _⟩ := h
    rfl
  · obtain ⟨v, t, b1, b2, rfl, ty, k1, k2, q⟩ := h
    refine ⟨_, PSs.nox (pss_one (ps_ret (pe_and (pe_callB call_isi (by rfl) mI (by decide +kernel) (pa_cons (pv 0) (pa_cons (pe_bltn (v := .ty "int") (by rfl) mi (by decide +kernel) rfl) pa_nil)))
      (pe_one (pe_not (pe_callB call_isi (by rfl) mI (by decide +kernel) (pa_cons (pv 0) (pa_cons (pe_bltn (v := .ty "bool") (by rfl) mb (by decide +kernel) rfl) pa_nil)))))))), ?_⟩
    refine ⟨_, rfl, v, .ty "int", t, _, b1, rfl, .ty _, ty, k1, b1, rfl, ?_⟩
    cases b1 with
    | false => exact iteF q
    | true =>
      refine iteT ⟨_, rfl, v, .ty "bool", t, _, b2, rfl, .ty _, ty, k2, b2, rfl, ?_⟩
      exact q
end
end SP
set_option Elab.async false
set_option linter.all false
set_option maxRecDepth 100000
set_option maxHeartbeats 400000
namespace SP
open PySem PySem.Spec PyProof.Rows L2
section
variable {P : Program} {w : World} {K : PySem.W.Frag} {mg : Str → Option Value} {base : Heap}
/-! ### shared_divisor -/
def spGcd : Sp := fun vs H Q _ => ∃ (a b : Nat), vs = [.int a, .int b] ∧ Q (.int (Nat.gcd a b : Nat)) H
theorem sc_sd : FnScope ["one", "other"] ["one", "other"] (defScope s_shared_divisor) := ⟨rfl, rfl, rfl, by decide +kernel, rfl, by decide +kernel, by decide +kernel⟩
theorem ok_sd {f : Addr} {fd : FuncData} (F : FnP K "shared_divisor" "shared_divisor" s_shared_divisor [] f fd) : FnOk P w K mg base CX0 1 f fd ["one", "other"] spGcd := by
  refine F.ok sc_sd (fun vs H Q E h => ?_) (fun cdv A outer s H vs Q E hr h => ?_)
  · obtain ⟨a, b, rfl, _⟩ := h
    rfl
  · obtain ⟨a, b, rfl, q⟩ := h
    refine ⟨_, PSs.nox (pss_cons (ps_while PassesOwn.never (pt_cmpR op_ne (pv 1) pe_int (nomark _)) (pss_one (ps_par (i := 0) (j := 1) (by rfl) sc_sd.nd rfl rfl (by decide) rfl rfl (pa_cons (pv 1) (pa_cons (pe_op op_modN (pv 0) (pv 1)) pa_nil)) (by rfl))))
      (pss_one (ps_ret (pv 0)))), ?_⟩
    refine while_by (fun σ H2 => ∃ c d : Nat, σ = [some (.int c), some (.int d)] ∧ H2 = H ∧ Nat.gcd c d = Nat.gcd a b) (fun σ _ => match σ with | [_, some (.int d)] => d.toNat | _ => 0) ⟨a, b, rfl, rfl, rfl⟩ ?_ ?_
    · rintro σ H2 ⟨c, d, rfl, rfl, e⟩
      refine ⟨_, rfl, rfl, _, rfl, ?_⟩
      by_cases hd : d = 0
      · subst hd
        refine iteNS rfl ⟨_, rfl, ?_⟩
        rw [Nat.gcd_zero_right] at e
        show Q (.int (c : Int)) H2
        rw [e]
        exact q
      · have hne : ¬ (V.int (d : Int) = V.int 0) := fun z => hd (by injection z with z; omega)
        refine iteNF hne ⟨_, rfl, _, rfl, _, rfl, _, _, rfl, rfl, (by omega), _, _, rfl, ⟨d, c % d, ?_, rfl, ?_⟩, ?_⟩
        · show [some (V.int (d : Int)), some (V.int ((c : Int).fmod (d : Int)))] = _
          rw [Int.fmod_eq_emod_of_nonneg _ (by omega)]
          rfl
        · rw [← e, Nat.gcd_comm c d, Nat.gcd_rec d c, Nat.gcd_comm]
        · show ((c : Int).fmod (d : Int)).toNat < (d : Int).toNat
          rw [Int.fmod_eq_emod_of_nonneg _ (by omega)]
          have := Nat.mod_lt c (by omega : 0 < d)
          omega
    · rintro σ H2 Q1 Q2 hm ⟨v, e, h1, b', h2, h3⟩
      exact ⟨v, e, h1, b', h2, hm _ _ h3⟩
end
end SP
set_option Elab.async false
set_option linter.all false
set_option maxRecDepth 100000
set_option maxHeartbeats 400000
namespace SP
open PySem PySem.Spec PyProof.Rows L2
/-! ### Amount.__init__ -/
theorem tb_ne : ¬ (("top" : Str) = "bottom") := by decide +kernel
def amF (q : Rat) : List (Str × V) := [("top", .int q.num), ("bottom", .int (q.den : Int))]
theorem amF_put (x y : Int) : putF "bottom" (.int y) (putF "top" (.int x) []) = ([("top", .int x), ("bottom", .int y)] : List (Str × V)) := by
  show (if ("top" : Str) = "bottom" then _ else (("top" : Str), V.int x) :: putF "bottom" (V.int y) []) = _
  rw [if_neg tb_ne]
  rfl
theorem sq_tt : (("top" : Str) == "top") = true := by decide +kernel
theorem sq_bt : (("bottom" : Str) == "top") = false := by decide +kernel
theorem sq_bb : (("bottom" : Str) == "bottom") = true := by decide +kernel
theorem lk_top (q : Rat) : (amF q).lookup ("top" : Str) = some (.int q.num) := by
  unfold amF List.lookup
  rw [sq_tt]
theorem lk_bot (q : Rat) : (amF q).lookup ("bottom" : Str) = some (.int (q.den : Int)) := by
  unfold amF List.lookup
  rw [sq_bt]
  unfold List.lookup
  rw [sq_bb]
theorem lk_no (q : Rat) {m : Str} (h1 : (m == ("top" : Str)) = false) (h2 : (m == ("bottom" : Str)) = false) : (amF q).lookup m = none := by
  unfold amF List.lookup
  rw [h1]
  unfold List.lookup
  rw [h2]
  rfl
/-- what of the text an Amount asks -/
structure AmC (K : PySem.W.Frag) (mg : Str → Option Value) (C : Addr) : Prop where
  cl : Cls K C
  nT : NoAttr K C "top"
  nB : NoAttr K C "bottom"
  mgC : mg "Amount" = some (.ref C)
def Bits (i : Int) : Prop := i.natAbs.log2 < 9000
theorem gcd_bits {t b : Int} (hb : b ≠ 0) (h : Bits b) : (Nat.gcd t.natAbs b.natAbs).log2 < 9000 := by
  refine Nat.lt_of_le_of_lt ?_ h
  have h1 : Nat.gcd t.natAbs b.natAbs ≤ b.natAbs := Nat.gcd_le_right _ (by omega)
  have h2 : Nat.gcd t.natAbs b.natAbs ≠ 0 := by
    have : 0 < Nat.gcd t.natAbs b.natAbs := Nat.gcd_pos_of_pos_right _ (by omega)
    omega
  refine (Nat.le_log2 (by omega)).mpr ?_
  exact Nat.le_trans (Nat.log2_self_le h2) h1
section
variable {P : Program} {w : World} {K : PySem.W.Frag} {mg : Str → Option Value} {base : Heap}
def spAmI (C : Addr) : Sp := fun vs H Q _ => ∃ (x dx : Addr) (t b : Int), vs = [.ref x, .int t, .int b] ∧ H x = some (.ins C dx []) ∧ b ≠ 0 ∧ Bits b ∧
  ∀ H', (∀ c, c ≠ x → H' c = H c) → H' x = some (.ins C dx (amF (Rat.divInt t b))) → Q .non H'
theorem ty_int {H : Hp} {i : Int} : TyX K H (.int i) (.type "int") := .base (.int i)
theorem kit_ii : PySem.W.kitOne K (.type "int") (.type "int") = some true := kit_ty (by decide +kernel)
theorem kit_ib : PySem.W.kitOne K (.type "int") (.type "bool") = some false := kit_ty (by decide +kernel)
theorem sc_ai : FnScope ["self", "top", "bottom", "divisor"] ["self", "top", "bottom"] (defScope s_Amount_init) := ⟨rfl, rfl, rfl, by decide +kernel, rfl, by decide +kernel, by decide +kernel⟩
theorem ok_ai {f C fII fSD : Addr} {fd fdII fdSD : FuncData} {dvs : List V} (F : FnP K "__init__" "Amount.__init__" s_Amount_init dvs f fd) (T : AmC K mg C)
    (FI : FnP K "is_integer" "is_integer" s_is_integer [] fII fdII) (gI : mg "is_integer" = some (.ref fII)) (FS : FnP K "shared_divisor" "shared_divisor" s_shared_divisor [] fSD fdSD) (gS : mg "shared_divisor" = some (.ref fSD))
    (mI : mg "isinstance" = none) (mi : mg "int" = none) (mb : mg "bool" = none) (ma : mg "abs" = none) : FnOk P w K mg base CX0 2 f fd ["self", "top", "bottom"] (spAmI C) := by
  have GI : FnOk P w K mg base CX0 1 fII fdII ["value"] (spIsInt K) := ok_ii FI mI mi mb
  have bI : Binds K fdII ["value"] [] := FI.bindsN fun _ _ _ _ _ _ us hl => match us, hl with | [_], _ => rfl
  have GS : FnOk P w K mg base CX0 1 fSD fdSD ["one", "other"] spGcd := ok_sd FS
  have bS : Binds K fdSD ["one", "other"] [] := FS.bindsN fun _ _ _ _ _ _ us hl => match us, hl with | [_, _], _ => rfl
  refine F.ok sc_ai (fun vs H Q E h => ?_) (fun cdv A outer s H vs Q E hr h => ?_)
  · obtain ⟨x, dx, t, b, rfl, _⟩ := h
    rfl
  · obtain ⟨x, dx, t, b, rfl, hx, hb, hbits, k⟩ := h
    refine ⟨_, PSs.nox (pss_cons (ps_if (pt_not (pt_val (pe_call GI hr rfl gI FI.kp bI .nil pass0 (pa_cons (pv 1) pa_nil)))) (pss_one ps_never) pss_nil)
      (pss_cons (ps_if (PW.pt (pw_or (pt_not (pt_val (pe_call GI hr rfl gI FI.kp bI .nil pass0 (pa_cons (pv 2) pa_nil)))) (pw_or1 (pt_cmpR op_eq (pv 2) pe_int (nomark _))))) (pss_one ps_never) pss_nil)
      (pss_cons (ps_set (i := 3) sc_ai.nd rfl (.inl rfl) (pe_call GS hr rfl gS FS.kp bS .nil pass0 (pa_cons (pe_callB call_abs (by rfl) ma (by decide +kernel) (pa_cons (pv 1) pa_nil)) (pa_cons (pe_callB call_abs (by rfl) ma (by decide +kernel) (pa_cons (pv 2) pa_nil)) pa_nil))))
      (pss_cons (ps_if (pt_cmpR op_lt (pv 2) pe_int (nomark _)) (pss_one (ps_set (i := 3) sc_ai.nd rfl (.inl rfl) (pe_un un_neg (pv 3)))) pss_nil)
      (pss_cons (ps_fld (pv 0) (pe_op op_fdivG (pv 1) (pv 3)) rfl)
      (pss_one (ps_fld (pv 0) (pe_op op_fdivG (pv 2) (pv 3)) rfl))))))), ?_⟩
    refine ⟨_, rfl, _, _, _, _, rfl, ty_int, kit_ii, kit_ib, _, rfl, iteF ?_⟩
    refine ⟨_, rfl, _, _, _, _, rfl, ty_int, kit_ii, kit_ib, _, rfl, iteF ⟨_, rfl, rfl, _, rfl, ?_⟩⟩
    refine iteDF (fun z => hb (by injection z)) ?_
    have ea : ∀ i : Int, (if i < 0 then -i else i) = (i.natAbs : Int) := fun i => by split <;> omega
    refine ⟨_, rfl, _, rfl, _, rfl, _, rfl, t.natAbs, b.natAbs, (by rw [ea, ea]; rfl), ?_⟩
    have gb := gcd_bits (t := t) hb hbits
    have gp : 0 < Nat.gcd t.natAbs b.natAbs := Nat.gcd_pos_of_pos_right _ (by omega)
    obtain ⟨e1, e2⟩ := amount_init (t := t) hb
    have fin : ∀ d : Int, d = (if b < 0 then -(Nat.gcd t.natAbs b.natAbs : Int) else (Nat.gcd t.natAbs b.natAbs : Int)) →
        (tSeq (sFld K (tVar 0) (tOp (rI CDivG fun i j => .int (i.fdiv j)) (tVar 1) (tVar 3)) "top") (sFld K (tVar 0) (tOp (rI CDivG fun i j => .int (i.fdiv j)) (tVar 2) (tVar 3)) "bottom")) { nx := fun _ H' => Q .non H', rt := Q } [some (.ref x), some (.int t), some (.int b), some (.int d)] H := fun d hd => by
      have dc : ∀ i : Int, CDivG i d := fun i => by
        refine ⟨?_, ?_⟩
        · rw [hd]; split <;> omega
        · rw [hd]
          have : (if b < 0 then -(Nat.gcd t.natAbs b.natAbs : Int) else (Nat.gcd t.natAbs b.natAbs : Int)).natAbs = Nat.gcd t.natAbs b.natAbs := by split <;> omega
          rw [this]
          exact gb
      refine ⟨_, rfl, _, rfl, _, _, rfl, rfl, dc _, _, rfl, x, C, dx, [], rfl, hx, T.cl, T.nT, (by show 0 < 1000; decide), ?_⟩
      refine ⟨_, rfl, _, rfl, _, _, rfl, rfl, dc _, _, rfl, x, C, dx, _, rfl, upd_same, T.cl, T.nB, (by show 1 < 1000; decide), ?_⟩
      refine k _ (fun c hc => by rw [upd_ne hc, upd_ne hc]) ?_
      rw [upd_same, hd]
      dsimp only
      rw [e1, e2]
      exact congrArg (fun l => some (HO.ins C dx l)) (amF_put _ _)
    refine ⟨_, rfl, _, _, rfl, rfl, _, rfl, ?_⟩
    refine ite2 (fun hl => ?_) (fun hl => ?_)
    · refine ⟨_, rfl, _, rfl, ?_⟩
      exact fin _ (by rw [if_pos (of_decide_eq_true hl)])
    · exact fin _ (by rw [if_neg (fun z => hl (decide_eq_true z))])
end
end SP
set_option Elab.async false
set_option linter.all false
set_option maxRecDepth 100000
set_option maxHeartbeats 400000
namespace SP
open PySem PySem.Spec PyProof.Rows L2
/-- an Amount at v; a number -/
def AmAt (C : Addr) (H : Hp) (v : V) (q : Rat) : Prop := ∃ a dx, v = .ref a ∧ H a = some (.ins C dx (amF q))
def NumAt (C : Addr) (H : Hp) (v : V) (q : Rat) : Prop := (∃ i : Int, v = .int i ∧ q = (i : Rat)) ∨ AmAt C H v q
theorem AmAt.mono {C : Addr} {H H' : Hp} {v : V} {q : Rat} (h : AmAt C H v q) (e : Same H H') : AmAt C H' v q := by
  obtain ⟨a, dx, rfl, h⟩ := h
  exact ⟨a, dx, rfl, e _ _ h⟩
theorem NumAt.mono {C : Addr} {H H' : Hp} {v : V} {q : Rat} (h : NumAt C H v q) (e : Same H H') : NumAt C H' v q := h.elim .inl fun h => .inr (h.mono e)
theorem mk_same {H H' : Hp} {x dx : Addr} {o u : HO} (hx : H x = none) (hd : H dx = none) (h : ∀ c, c ≠ x → H' c = (upd (upd H dx o) x u) c) : Same H H' := fun b z e => by
  have n1 := ne_of_none e hx
  rw [h b n1, upd_ne n1, upd_ne (ne_of_none e hd)]
  exact e
theorem divInt_one (i : Int) : Rat.divInt i 1 = (i : Rat) := by
  rw [Rat.divInt_eq_div]
  grind
/-- more of the text: isinstance of an Amount -/
structure AmI (K : PySem.W.Frag) (C : Addr) : Prop where
  ca : PySem.W.findIn K (.ref C) "__class__" = some (some (.builtin "object.__class__"))
  cn : PySem.W.specialIn K (.builtin "object.__class__") "__get__" = some (some (.builtin "getset_descriptor.__get__"))
  ct : PySem.W.takesIn K (.builtin "object.__class__") = some true
  cm : PySem.W.mroIn K C (.type "object") = some true
  kCC : PySem.W.kitOne K (.ref C) (.ref C) = some true
  kIC : PySem.W.kitOne K (.type "int") (.ref C) = some false
/-- Amount(..) -/
structure AmMk (P : Program) (w : World) (K : PySem.W.Frag) (mg : Str → Option Value) (base : Heap) (C fI : Addr) (fd : FuncData) : Prop where
  mks : Mk K C fI
  ok : FnOk P w K mg base CX0 2 fI fd ["self", "top", "bottom"] (spAmI C)
  b2 : Binds K fd ["self", "top", "bottom"] []
  b1 : ∃ ds, Vals [V.int 1] ds ∧ Binds K fd ["self", "top", "bottom"] ds
section
variable {P : Program} {w : World} {K : PySem.W.Frag} {mg : Str → Option Value} {base : Heap}
theorem AmI.ty {C : Addr} {H : Hp} {v : V} {q : Rat} (I : AmI K C) (c : Cls K C) (h : AmAt C H v q) : TyX K H v (.ref C) := by
  obtain ⟨a, dx, rfl, h⟩ := h
  exact .base (.ins h c I.ca I.cn I.ct I.cm)
def spOf (C : Addr) : Sp := fun vs H Q _ => ∃ (v : V) (q : Rat), vs = [v] ∧ NumAt C H v q ∧ ∀ p H', Same H H' → AmAt C H' p q → Q p H'
theorem sc_of : FnScope ["number"] ["number"] (defScope s_Amount_of) := ⟨rfl, rfl, rfl, by decide +kernel, rfl, by decide +kernel, by decide +kernel⟩
theorem ok_of {f C fI fII : Addr} {fd fdI fdII : FuncData} (F : FnP K "of" "Amount.of" s_Amount_of [] f fd) (T : AmC K mg C) (TI : AmI K C) (M : AmMk P w K mg base C fI fdI)
    (FI : FnP K "is_integer" "is_integer" s_is_integer [] fII fdII) (gI : mg "is_integer" = some (.ref fII))
    (mI : mg "isinstance" = none) (mi : mg "int" = none) (mb : mg "bool" = none) : FnOk P w K mg base CX0 4 f fd ["number"] (spOf C) := by
  have GI : FnOk P w K mg base CX0 1 fII fdII ["value"] (spIsInt K) := ok_ii FI mI mi mb
  have bI : Binds K fdII ["value"] [] := FI.bindsN fun _ _ _ _ _ _ us hl => match us, hl with | [_], _ => rfl
  obtain ⟨ds, hds, b1⟩ := M.b1
  refine F.ok sc_of (fun vs H Q E h => ?_) (fun cdv A outer s H vs Q E hr h => ?_)
  · obtain ⟨v, q, rfl, _⟩ := h
    rfl
  · obtain ⟨v, q, rfl, hn, k⟩ := h
    refine ⟨_, PSs.nox (pss_cons (ps_if (pt_val (pe_callB call_isi (by rfl) mI (by decide +kernel) (pa_cons (pv 0) (pa_cons (pe_glob (v := .ref C) (by rfl) T.mgC rfl) pa_nil)))) (pss_one (ps_ret (pv 0))) pss_nil)
      (pss_cons (ps_if (pt_not (pt_val (pe_call GI (hr.mono (by decide)) rfl gI FI.kp bI .nil pass0 (pa_cons (pv 0) pa_nil)))) (pss_one ps_never) pss_nil)
      (pss_one (ps_ret (pe_make M.mks M.ok hr rfl T.mgC b1 hds pass0 (pa_cons (pv 0) pa_nil)))))), ?_⟩
    rcases hn with ⟨i, rfl, rfl⟩ | ha
    · refine ⟨_, rfl, _, _, _, _, _, rfl, .own C, ty_int, TI.kIC, _, rfl, iteF ?_⟩
      refine ⟨_, rfl, _, _, _, _, rfl, ty_int, kit_ii, kit_ib, _, rfl, iteF ?_⟩
      refine ⟨_, rfl, fun x dx hx hdx hne => ⟨x, dx, i, 1, rfl, upd_same, (by decide), (by show Nat.log2 1 < 9000; decide), fun H' h1 h2 => ⟨rfl, ?_⟩⟩⟩
      refine k _ _ (mk_same hx hdx h1) ⟨x, dx, rfl, ?_⟩
      rw [h2, divInt_one]
    · refine ⟨_, rfl, _, _, _, _, _, rfl, .own C, TI.ty T.cl ha, TI.kCC, _, rfl, iteT ?_⟩
      exact ⟨_, rfl, k _ _ (Same.refl _) ha⟩
end
end SP
set_option Elab.async false
set_option linter.all false
set_option maxRecDepth 100000
set_option maxHeartbeats 400000
namespace SP
open PySem PySem.Spec PyProof.Rows L2
/-- any value beside an Amount: a number of the value r, or no number -/
def OthAt (K : PySem.W.Frag) (C : Addr) (H : Hp) (v : V) : Option Rat → Prop
  | some q => NumAt C H v q
  | none => ∃ t b1 b2, TyX K H v t ∧ PySem.W.kitOne K t (.ref C) = some false ∧ PySem.W.kitOne K t (.type "int") = some b1 ∧ PySem.W.kitOne K t (.type "bool") = some b2 ∧ (b1 && !b2) = false
def SzQ (q : Rat) : Prop := Bits q.num ∧ Bits q.den
theorem mulW {i j : Int} (h1 : Bits i) (h2 : Bits j) : CMulW i j := by
  unfold Bits at h1 h2
  unfold CMulW
  omega
section
variable {P : Program} {w : World} {K : PySem.W.Frag} {mg : Str → Option Value} {base : Heap}
theorem fld_top {C : Addr} {H : Hp} {v : V} {q : Rat} {te : TE} {σ : L2.St} {Q : VK} (c : Cls K C) (n : NoAttr K C "top") (h : AmAt C H v q) (ht : te σ H fun x H1 => x = v ∧ H1 = H ∧ Q (.int q.num) H) (mono : ∀ Q Q' : VK, (∀ x H1, Q x H1 → Q' x H1) → te σ H Q → te σ H Q') : tFld K te "top" σ H Q := by
  refine mono _ _ (fun x H1 z => ?_) ht
  obtain ⟨rfl, rfl, q'⟩ := z
  obtain ⟨a, dx, rfl, h⟩ := h
  exact ⟨a, C, dx, _, _, rfl, h, c, n, lk_top q, q'⟩
def spEqA (K : PySem.W.Frag) (C : Addr) : Sp := fun vs H Q _ => ∃ (v o : V) (q : Rat) (r : Option Rat), vs = [v, o] ∧ AmAt C H v q ∧ OthAt K C H o r ∧ Q (.bl (decide (r = some q))) H
theorem sc_eq : FnScope ["self", "other"] ["self", "other"] (defScope s_Amount_eq) := ⟨rfl, rfl, rfl, by decide +kernel, rfl, by decide +kernel, by decide +kernel⟩
theorem ok_eq {f C fII : Addr} {fd fdII : FuncData} (F : FnP K "__eq__" "Amount.__eq__" s_Amount_eq [] f fd) (T : AmC K mg C) (TI : AmI K C)
    (FI : FnP K "is_integer" "is_integer" s_is_integer [] fII fdII) (gI : mg "is_integer" = some (.ref fII))
    (mI : mg "isinstance" = none) (mi : mg "int" = none) (mb : mg "bool" = none) : FnOk P w K mg base CX0 2 f fd ["self", "other"] (spEqA K C) := by
  have GI : FnOk P w K mg base CX0 1 fII fdII ["value"] (spIsInt K) := ok_ii FI mI mi mb
  have bI : Binds K fdII ["value"] [] := FI.bindsN fun _ _ _ _ _ _ us hl => match us, hl with | [_], _ => rfl
  refine F.ok sc_eq (fun vs H Q E h => ?_) (fun cdv A outer s H vs Q E hr h => ?_)
  · obtain ⟨v, o, q, r, rfl, _⟩ := h
    rfl
  · obtain ⟨v, o, q, r, rfl, ⟨a, dx, rfl, ha⟩, ho, k⟩ := h
    refine ⟨_, PSs.nox (pss_cons (ps_if (pt_val (pe_callB call_isi (by rfl) mI (by decide +kernel) (pa_cons (pv 1) (pa_cons (pe_glob (v := .ref C) (by rfl) T.mgC rfl) pa_nil))))
        (pss_one (ps_ret (pe_and (pe_cmpR op_eq (pe_fld (pv 0) rfl) (pe_fld (pv 1) rfl) (nomark _)) (pe_one (pe_cmpR op_eq (pe_fld (pv 0) rfl) (pe_fld (pv 1) rfl) (nomark _)))))) pss_nil)
      (pss_one (ps_ret (pe_and (pe_call GI hr rfl gI FI.kp bI .nil pass0 (pa_cons (pv 1) pa_nil)) (pe_and (pe_cmpR op_eq (pe_fld (pv 0) rfl) pe_int (nomark _)) (pe_one (pe_cmpR op_eq (pe_fld (pv 0) rfl) (pv 1) (nomark _)))))))), ?_⟩
    have fin : ∀ (b : Bool) (H2 : Hp), H2 = H → (b = decide (r = some q)) → Q (.bl b) H2 := fun b H2 e1 e2 => by rw [e1, e2]; exact k
    cases r with
    | none =>
      obtain ⟨t, b1, b2, ty, k1, k2, k3, k4⟩ := ho
      refine ⟨_, rfl, _, _, _, _, _, rfl, .own C, ty, k1, _, rfl, iteF ?_⟩
      refine ⟨_, rfl, _, _, _, _, rfl, ty, k2, k3, _, rfl, ?_⟩
      rw [k4]
      exact iteF (fin _ _ rfl (by simp))
    | some q2 =>
      rcases ho with ⟨i, rfl, rfl⟩ | ⟨a2, dx2, rfl, ha2⟩
      · refine ⟨_, rfl, _, _, _, _, _, rfl, .own C, ty_int, TI.kIC, _, rfl, iteF ?_⟩
        refine ⟨_, rfl, _, _, _, _, rfl, ty_int, kit_ii, kit_ib, _, rfl, iteT ?_⟩
        refine ⟨_, rfl, a, C, dx, _, _, rfl, ha, T.cl, T.nB, lk_bot q, rfl, _, rfl, ?_⟩
        refine ite2 (fun h1 => ?_) (fun h1 => ?_)
        · refine ⟨_, rfl, a, C, dx, _, _, rfl, ha, T.cl, T.nT, lk_top q, _, rfl, rfl, ?_⟩
          refine fin _ _ rfl ?_
          have h1 := of_decide_eq_true h1
          injection h1 with h1
          refine decide_eq_decide.mpr ⟨fun z => ?_, fun z => ?_⟩
          · injection z with z
            refine congrArg some (Rat.ext ?_ ?_)
            · rw [Rat.num_intCast]; exact z.symm
            · rw [Rat.den_intCast]; omega
          · injection z with z
            rw [← z, Rat.num_intCast]
        · refine fin _ _ rfl ?_
          refine (decide_eq_false fun z => h1 (decide_eq_true ?_)).symm
          injection z with z
          rw [← z, Rat.den_intCast]
          rfl
      · refine ⟨_, rfl, _, _, _, _, _, rfl, .own C, TI.ty T.cl ⟨a2, dx2, rfl, ha2⟩, TI.kCC, _, rfl, iteT ?_⟩
        refine ⟨_, rfl, a, C, dx, _, _, rfl, ha, T.cl, T.nT, lk_top q, _, rfl, a2, C, dx2, _, _, rfl, ha2, T.cl, T.nT, lk_top q2, rfl, _, rfl, ?_⟩
        refine ite2 (fun h1 => ?_) (fun h1 => ?_)
        · refine ⟨_, rfl, a, C, dx, _, _, rfl, ha, T.cl, T.nB, lk_bot q, _, rfl, a2, C, dx2, _, _, rfl, ha2, T.cl, T.nB, lk_bot q2, rfl, ?_⟩
          refine fin _ _ rfl ?_
          have h1 := of_decide_eq_true h1
          injection h1 with h1
          refine decide_eq_decide.mpr ⟨fun z => ?_, fun z => ?_⟩
          · injection z with z
            exact congrArg some (Rat.ext h1.symm (by omega))
          · injection z with z
            rw [z]
        · refine fin _ _ rfl ?_
          refine (decide_eq_false fun z => h1 (decide_eq_true ?_)).symm
          injection z with z
          rw [z]
end
end SP
set_option Elab.async false
set_option linter.all false
set_option maxRecDepth 100000
set_option maxHeartbeats 400000
namespace SP
open PySem PySem.Spec PyProof.Rows L2
section
variable {P : Program} {w : World} {K : PySem.W.Frag} {mg : Str → Option Value} {base : Heap}
/-- Amount.of(..) as it is called -/
structure AmOf (P : Program) (w : World) (K : PySem.W.Frag) (mg : Str → Option Value) (base : Heap) (C p g : Addr) : Prop where
  rd : ClX.CRead K C (.type "type")
  sm : SMet K C (.type "type") "of" p g
  ok : FnR P w K mg base CX0 4 g (spOf C)
def spCmp (C : Addr) (r : Rat → Rat → Bool) : Sp := fun vs H Q _ => ∃ (v o : V) (q q2 : Rat), vs = [v, o] ∧ AmAt C H v q ∧ NumAt C H o q2 ∧ SzQ q ∧ SzQ q2 ∧ ∀ H', Same H H' → Q (.bl (r q q2)) H'
theorem sc_lt : FnScope ["self", "other", "right"] ["self", "other"] (defScope s_Amount_lt) := ⟨rfl, rfl, rfl, by decide +kernel, rfl, by decide +kernel, by decide +kernel⟩
theorem ok_lt {f C p g : Addr} {fd : FuncData} (F : FnP K "__lt__" "Amount.__lt__" s_Amount_lt [] f fd) (T : AmC K mg C) (O : AmOf P w K mg base C p g) : FnOk P w K mg base CX0 5 f fd ["self", "other"] (spCmp C fun q q2 => decide (q < q2)) := by
  refine F.ok sc_lt (fun vs H Q E h => ?_) (fun cdv A outer s H vs Q E hr h => ?_)
  · obtain ⟨v, o, q, q2, rfl, _⟩ := h
    rfl
  · obtain ⟨v, o, q, q2, rfl, ⟨a, dx, rfl, ha⟩, ho, z1, z2, k⟩ := h
    refine ⟨_, PSs.nox (pss_cons (ps_set (i := 2) sc_lt.nd rfl (.inl rfl) (pe_smeth (pe_glob (v := .ref C) (by rfl) T.mgC rfl) O.rd O.sm O.ok hr pass0 (pa_cons (pv 1) pa_nil)))
      (pss_one (ps_ret (pe_cmpR op_lt (pe_op op_mulW (pe_fld (pv 0) rfl) (pe_fld (pv 2) rfl)) (pe_op op_mulW (pe_fld (pv 2) rfl) (pe_fld (pv 0) rfl)) (nomark _))))), ?_⟩
    refine ⟨rfl, _, rfl, o, q2, rfl, ho, fun r H' e hr2 => ?_⟩
    obtain ⟨a2, dx2, rfl, ha2⟩ := hr2
    have ha' := e _ _ ha
    refine ⟨_, rfl, a, C, dx, _, _, rfl, ha', T.cl, T.nT, lk_top q, _, rfl, a2, C, dx2, _, _, rfl, ha2, T.cl, T.nB, lk_bot q2, _, _, rfl, rfl, mulW z1.1 z2.2, ?_⟩
    refine ⟨_, rfl, a2, C, dx2, _, _, rfl, ha2, T.cl, T.nT, lk_top q2, _, rfl, a, C, dx, _, _, rfl, ha', T.cl, T.nB, lk_bot q, _, _, rfl, rfl, mulW z2.1 z1.2, ?_⟩
    refine ⟨_, _, rfl, rfl, ?_⟩
    have e2 : decide (q.num * (q2.den : Int) < q2.num * (q.den : Int)) = decide (q < q2) := decide_eq_decide.mpr (Rat.lt_iff q q2).symm
    have := k H' e
    dsimp only at this
    rw [← e2] at this
    exact this
theorem sc_le : FnScope ["self", "other", "right"] ["self", "other"] (defScope s_Amount_le) := ⟨rfl, rfl, rfl, by decide +kernel, rfl, by decide +kernel, by decide +kernel⟩
theorem ok_le {f C p g : Addr} {fd : FuncData} (F : FnP K "__le__" "Amount.__le__" s_Amount_le [] f fd) (T : AmC K mg C) (O : AmOf P w K mg base C p g) : FnOk P w K mg base CX0 5 f fd ["self", "other"] (spCmp C fun q q2 => decide (q ≤ q2)) := by
  refine F.ok sc_le (fun vs H Q E h => ?_) (fun cdv A outer s H vs Q E hr h => ?_)
  · obtain ⟨v, o, q, q2, rfl, _⟩ := h
    rfl
  · obtain ⟨v, o, q, q2, rfl, ⟨a, dx, rfl, ha⟩, ho, z1, z2, k⟩ := h
    refine ⟨_, PSs.nox (pss_cons (ps_set (i := 2) sc_le.nd rfl (.inl rfl) (pe_smeth (pe_glob (v := .ref C) (by rfl) T.mgC rfl) O.rd O.sm O.ok hr pass0 (pa_cons (pv 1) pa_nil)))
      (pss_one (ps_ret (pe_cmpR op_le (pe_op op_mulW (pe_fld (pv 0) rfl) (pe_fld (pv 2) rfl)) (pe_op op_mulW (pe_fld (pv 2) rfl) (pe_fld (pv 0) rfl)) (nomark _))))), ?_⟩
    refine ⟨rfl, _, rfl, o, q2, rfl, ho, fun r H' e hr2 => ?_⟩
    obtain ⟨a2, dx2, rfl, ha2⟩ := hr2
    have ha' := e _ _ ha
    refine ⟨_, rfl, a, C, dx, _, _, rfl, ha', T.cl, T.nT, lk_top q, _, rfl, a2, C, dx2, _, _, rfl, ha2, T.cl, T.nB, lk_bot q2, _, _, rfl, rfl, mulW z1.1 z2.2, ?_⟩
    refine ⟨_, rfl, a2, C, dx2, _, _, rfl, ha2, T.cl, T.nT, lk_top q2, _, rfl, a, C, dx, _, _, rfl, ha', T.cl, T.nB, lk_bot q, _, _, rfl, rfl, mulW z2.1 z1.2, ?_⟩
    refine ⟨_, _, rfl, rfl, ?_⟩
    have e2 : decide (q.num * (q2.den : Int) ≤ q2.num * (q.den : Int)) = decide (q ≤ q2) := decide_eq_decide.mpr (Rat.le_iff q q2).symm
    have := k H' e
    dsimp only at this
    rw [← e2] at this
    exact this
theorem sc_gt : FnScope ["self", "other", "right"] ["self", "other"] (defScope s_Amount_gt) := ⟨rfl, rfl, rfl, by decide +kernel, rfl, by decide +kernel, by decide +kernel⟩
theorem ok_gt {f C p g : Addr} {fd : FuncData} (F : FnP K "__gt__" "Amount.__gt__" s_Amount_gt [] f fd) (T : AmC K mg C) (O : AmOf P w K mg base C p g) : FnOk P w K mg base CX0 5 f fd ["self", "other"] (spCmp C fun q q2 => decide (q2 < q)) := by
  refine F.ok sc_gt (fun vs H Q E h => ?_) (fun cdv A outer s H vs Q E hr h => ?_)
  · obtain ⟨v, o, q, q2, rfl, _⟩ := h
    rfl
  · obtain ⟨v, o, q, q2, rfl, ⟨a, dx, rfl, ha⟩, ho, z1, z2, k⟩ := h
    refine ⟨_, PSs.nox (pss_cons (ps_set (i := 2) sc_gt.nd rfl (.inl rfl) (pe_smeth (pe_glob (v := .ref C) (by rfl) T.mgC rfl) O.rd O.sm O.ok hr pass0 (pa_cons (pv 1) pa_nil)))
      (pss_one (ps_ret (pe_cmpR op_gt (pe_op op_mulW (pe_fld (pv 0) rfl) (pe_fld (pv 2) rfl)) (pe_op op_mulW (pe_fld (pv 2) rfl) (pe_fld (pv 0) rfl)) (nomark _))))), ?_⟩
    refine ⟨rfl, _, rfl, o, q2, rfl, ho, fun r H' e hr2 => ?_⟩
    obtain ⟨a2, dx2, rfl, ha2⟩ := hr2
    have ha' := e _ _ ha
    refine ⟨_, rfl, a, C, dx, _, _, rfl, ha', T.cl, T.nT, lk_top q, _, rfl, a2, C, dx2, _, _, rfl, ha2, T.cl, T.nB, lk_bot q2, _, _, rfl, rfl, mulW z1.1 z2.2, ?_⟩
    refine ⟨_, rfl, a2, C, dx2, _, _, rfl, ha2, T.cl, T.nT, lk_top q2, _, rfl, a, C, dx, _, _, rfl, ha', T.cl, T.nB, lk_bot q, _, _, rfl, rfl, mulW z2.1 z1.2, ?_⟩
    refine ⟨_, _, rfl, rfl, ?_⟩
    have e2 : decide (q2.num * (q.den : Int) < q.num * (q2.den : Int)) = decide (q2 < q) := decide_eq_decide.mpr (Rat.lt_iff q2 q).symm
    have := k H' e
    dsimp only at this
    rw [← e2] at this
    exact this
theorem sc_ge : FnScope ["self", "other", "right"] ["self", "other"] (defScope s_Amount_ge) := ⟨rfl, rfl, rfl, by decide +kernel, rfl, by decide +kernel, by decide +kernel⟩
theorem ok_ge {f C p g : Addr} {fd : FuncData} (F : FnP K "__ge__" "Amount.__ge__" s_Amount_ge [] f fd) (T : AmC K mg C) (O : AmOf P w K mg base C p g) : FnOk P w K mg base CX0 5 f fd ["self", "other"] (spCmp C fun q q2 => decide (q2 ≤ q)) := by
  refine F.ok sc_ge (fun vs H Q E h => ?_) (fun cdv A outer s H vs Q E hr h => ?_)
  · obtain ⟨v, o, q, q2, rfl, _⟩ := h
    rfl
  · obtain ⟨v, o, q, q2, rfl, ⟨a, dx, rfl, ha⟩, ho, z1, z2, k⟩ := h
    refine ⟨_, PSs.nox (pss_cons (ps_set (i := 2) sc_ge.nd rfl (.inl rfl) (pe_smeth (pe_glob (v := .ref C) (by rfl) T.mgC rfl) O.rd O.sm O.ok hr pass0 (pa_cons (pv 1) pa_nil)))
      (pss_one (ps_ret (pe_cmpR op_ge (pe_op op_mulW (pe_fld (pv 0) rfl) (pe_fld (pv 2) rfl)) (pe_op op_mulW (pe_fld (pv 2) rfl) (pe_fld (pv 0) rfl)) (nomark _))))), ?_⟩
    refine ⟨rfl, _, rfl, o, q2, rfl, ho, fun r H' e hr2 => ?_⟩
    obtain ⟨a2, dx2, rfl, ha2⟩ := hr2
    have ha' := e _ _ ha
    refine ⟨_, rfl, a, C, dx, _, _, rfl, ha', T.cl, T.nT, lk_top q, _, rfl, a2, C, dx2, _, _, rfl, ha2, T.cl, T.nB, lk_bot q2, _, _, rfl, rfl, mulW z1.1 z2.2, ?_⟩
    refine ⟨_, rfl, a2, C, dx2, _, _, rfl, ha2, T.cl, T.nT, lk_top q2, _, rfl, a, C, dx, _, _, rfl, ha', T.cl, T.nB, lk_bot q, _, _, rfl, rfl, mulW z2.1 z1.2, ?_⟩
    refine ⟨_, _, rfl, rfl, ?_⟩
    have e2 : decide (q2.num * (q.den : Int) ≤ q.num * (q2.den : Int)) = decide (q2 ≤ q) := decide_eq_decide.mpr (Rat.le_iff q2 q).symm
    have := k H' e
    dsimp only at this
    rw [← e2] at this
    exact this
end
end SP
set_option Elab.async false
set_option linter.all false
set_option maxRecDepth 100000
set_option maxHeartbeats 400000
namespace SP
open PySem PySem.Spec PyProof.Rows L2
/-! ### sizes -/
def SzN (n : Nat) (q : Rat) : Prop := q.num.natAbs < 2 ^ n ∧ q.den < 2 ^ n
theorem bits_of {i : Int} {n : Nat} (h : i.natAbs < 2 ^ n) (hn : n ≤ 9000) : Bits i := by
  unfold Bits
  by_cases h0 : i.natAbs = 0
  · rw [h0]; decide
  · have := (Nat.log2_lt h0).mpr h
    omega
theorem SzN.sz {n : Nat} {q : Rat} (h : SzN n q) (hn : n ≤ 9000) : SzQ q := ⟨bits_of h.1 hn, bits_of (by simpa using h.2) hn⟩
theorem SzN.mono {n m : Nat} {q : Rat} (h : SzN n q) (hn : n ≤ m) : SzN m q := ⟨Nat.lt_of_lt_of_le h.1 (Nat.pow_le_pow_right (by decide) hn), Nat.lt_of_lt_of_le h.2 (Nat.pow_le_pow_right (by decide) hn)⟩
theorem mul_lt2 {i j : Int} {n m : Nat} (h1 : i.natAbs < 2 ^ n) (h2 : j.natAbs < 2 ^ m) : (i * j).natAbs < 2 ^ (n + m) := wide_lt h1 h2
/-- the result of Amount(t, b) is no larger than its parts -/
theorem sz_divInt {t b : Int} {n : Nat} (hb : b ≠ 0) (h1 : t.natAbs < 2 ^ n) (h2 : b.natAbs < 2 ^ n) : SzN n (Rat.divInt t b) := by
  obtain ⟨e1, e2⟩ := amount_init (t := t) hb
  have gp : 0 < Nat.gcd t.natAbs b.natAbs := Nat.gcd_pos_of_pos_right _ (by omega)
  have gl : (Nat.gcd t.natAbs b.natAbs : Int) ∣ t := Int.ofNat_dvd_left.mpr (Nat.gcd_dvd_left _ _)
  have gr : (Nat.gcd t.natAbs b.natAbs : Int) ∣ b := Int.ofNat_dvd_left.mpr (Nat.gcd_dvd_right _ _)
  have key : ∀ (x d : Int), d ≠ 0 → d ∣ x → (x.fdiv d).natAbs ≤ x.natAbs := fun x d hd ⟨y, hy⟩ => by
    rw [hy, Int.mul_fdiv_cancel_left _ hd, Int.natAbs_mul]
    exact Nat.le_mul_of_pos_left _ (by omega)
  have dn : (if b < 0 then -(Nat.gcd t.natAbs b.natAbs : Int) else (Nat.gcd t.natAbs b.natAbs : Int)) ≠ 0 := by split <;> omega
  have dl : ∀ x : Int, (Nat.gcd t.natAbs b.natAbs : Int) ∣ x → (if b < 0 then -(Nat.gcd t.natAbs b.natAbs : Int) else (Nat.gcd t.natAbs b.natAbs : Int)) ∣ x := fun x h => by
    split
    · exact Int.neg_dvd.mpr h
    · exact h
  refine ⟨?_, ?_⟩
  · rw [← e1]
    exact Nat.lt_of_le_of_lt (key _ _ dn (dl _ gl)) h1
  · have : ((Rat.divInt t b).den : Int).natAbs < 2 ^ n := by
      rw [← e2]
      exact Nat.lt_of_le_of_lt (key _ _ dn (dl _ gr)) h2
    simpa using this
section
variable {q q2 : Rat} {n m : Nat}
theorem den_ne (q : Rat) : (q.den : Int) ≠ 0 := by have := q.den_nz; omega
theorem q_add : q + q2 = Rat.divInt (q.num * q2.den + q2.num * q.den) (q.den * q2.den) := by
  have := Rat.divInt_add_divInt q.num q2.num (den_ne q) (den_ne q2)
  rw [Rat.num_divInt_den, Rat.num_divInt_den] at this
  exact this
theorem q_sub : q - q2 = Rat.divInt (q.num * q2.den - q2.num * q.den) (q.den * q2.den) := by
  have := Rat.divInt_sub_divInt q.num q2.num (den_ne q) (den_ne q2)
  rw [Rat.num_divInt_den, Rat.num_divInt_den] at this
  exact this
theorem q_mul : q * q2 = Rat.divInt (q.num * q2.num) (q.den * q2.den) := by
  have := Rat.divInt_mul_divInt q.num q2.num (d₁ := q.den) (d₂ := q2.den)
  rw [Rat.num_divInt_den, Rat.num_divInt_den] at this
  exact this
theorem q_neg : -q = Rat.divInt (-q.num) q.den := by
  have := Rat.neg_divInt q.num q.den
  rw [Rat.num_divInt_den] at this
  exact this
theorem den_lt (h : SzN n q) : ((q.den : Int)).natAbs < 2 ^ n := by simpa using h.2
theorem sz_dd (h1 : SzN n q) (h2 : SzN m q2) : ((q.den : Int) * (q2.den : Int)).natAbs < 2 ^ (n + m) := mul_lt2 (den_lt h1) (den_lt h2)
theorem sz_num (h1 : SzN n q) (h2 : SzN m q2) : (q.num * (q2.den : Int) + q2.num * (q.den : Int)).natAbs < 2 ^ (n + m + 1) := by
  have a := mul_lt2 h1.1 (den_lt h2)
  have b := mul_lt2 h2.1 (den_lt h1)
  rw [Nat.add_comm m n] at b
  have := Int.natAbs_add_le (q.num * (q2.den : Int)) (q2.num * (q.den : Int))
  rw [Nat.pow_succ]
  omega
theorem sz_numS (h1 : SzN n q) (h2 : SzN m q2) : (q.num * (q2.den : Int) - q2.num * (q.den : Int)).natAbs < 2 ^ (n + m + 1) := by
  have a := mul_lt2 h1.1 (den_lt h2)
  have b := mul_lt2 h2.1 (den_lt h1)
  rw [Nat.add_comm m n] at b
  rw [Nat.pow_succ]
  omega
theorem up1 {i : Int} (h : i.natAbs < 2 ^ n) : i.natAbs < 2 ^ (n + 1) := by
  rw [Nat.pow_succ]
  omega
theorem sz_add (h1 : SzN n q) (h2 : SzN m q2) : SzN (n + m + 1) (q + q2) := by
  rw [q_add]
  exact sz_divInt (Int.mul_ne_zero (den_ne q) (den_ne q2)) (sz_num h1 h2) (up1 (sz_dd h1 h2))
theorem sz_sub (h1 : SzN n q) (h2 : SzN m q2) : SzN (n + m + 1) (q - q2) := by
  rw [q_sub]
  exact sz_divInt (Int.mul_ne_zero (den_ne q) (den_ne q2)) (sz_numS h1 h2) (up1 (sz_dd h1 h2))
theorem sz_mul (h1 : SzN n q) (h2 : SzN m q2) : SzN (n + m) (q * q2) := by
  rw [q_mul]
  exact sz_divInt (Int.mul_ne_zero (den_ne q) (den_ne q2)) (mul_lt2 h1.1 h2.1) (sz_dd h1 h2)
theorem sz_neg (h1 : SzN n q) : SzN n (-q) := by
  rw [q_neg]
  exact sz_divInt (den_ne q) (by rw [Int.natAbs_neg]; exact h1.1) (den_lt h1)
end
section
variable {P : Program} {w : World} {K : PySem.W.Frag} {mg : Str → Option Value} {base : Heap}
theorem pt_none {X : Cx} {e : Expr} : PT X e (fun _ _ _ => False) := ⟨fun _ _ _ _ _ _ h => h.elim⟩
def spIsNum (K : PySem.W.Frag) (C : Addr) : Sp := fun vs H Q _ => ∃ (v : V) (r : Option Rat), vs = [v] ∧ OthAt K C H v r ∧ Q (.bl r.isSome) H
theorem sc_isn : FnScope ["value"] ["value"] (defScope s_Amount_is_number) := ⟨rfl, rfl, rfl, by decide +kernel, rfl, by decide +kernel, by decide +kernel⟩
theorem ok_isn {f C fII : Addr} {fd fdII : FuncData} (F : FnP K "is_number" "Amount.is_number" s_Amount_is_number [] f fd) (T : AmC K mg C) (TI : AmI K C)
    (FI : FnP K "is_integer" "is_integer" s_is_integer [] fII fdII) (gI : mg "is_integer" = some (.ref fII))
    (mI : mg "isinstance" = none) (mi : mg "int" = none) (mb : mg "bool" = none) : FnOk P w K mg base CX0 2 f fd ["value"] (spIsNum K C) := by
  have GI : FnOk P w K mg base CX0 1 fII fdII ["value"] (spIsInt K) := ok_ii FI mI mi mb
  have bI : Binds K fdII ["value"] [] := FI.bindsN fun _ _ _ _ _ _ us hl => match us, hl with | [_], _ => rfl
  refine F.ok sc_isn (fun vs H Q E h => ?_) (fun cdv A outer s H vs Q E hr h => ?_)
  · obtain ⟨v, r, rfl, _⟩ := h
    rfl
  · obtain ⟨v, r, rfl, ho, k⟩ := h
    refine ⟨_, PSs.nox (pss_one (ps_ret (pe_or (pe_callB call_isi (by rfl) mI (by decide +kernel) (pa_cons (pv 0) (pa_cons (pe_glob (v := .ref C) (by rfl) T.mgC rfl) pa_nil))) (pe_one (pe_call GI hr rfl gI FI.kp bI .nil pass0 (pa_cons (pv 0) pa_nil)))))), ?_⟩
    cases r with
    | none =>
      obtain ⟨t, b1, b2, ty, k1, k2, k3, k4⟩ := ho
      refine ⟨_, rfl, _, _, _, _, _, rfl, .own C, ty, k1, _, rfl, iteF ?_⟩
      refine ⟨_, rfl, _, _, _, _, rfl, ty, k2, k3, ?_⟩
      rw [k4]
      exact k
    | some q2 =>
      rcases ho with ⟨i, rfl, rfl⟩ | ha
      · refine ⟨_, rfl, _, _, _, _, _, rfl, .own C, ty_int, TI.kIC, _, rfl, iteF ?_⟩
        exact ⟨_, rfl, _, _, _, _, rfl, ty_int, kit_ii, kit_ib, k⟩
      · exact ⟨_, rfl, _, _, _, _, _, rfl, .own C, TI.ty T.cl ha, TI.kCC, _, rfl, iteT k⟩
structure AmIsN (P : Program) (w : World) (K : PySem.W.Frag) (mg : Str → Option Value) (base : Heap) (C p g : Addr) : Prop where
  sm : SMet K C (.type "type") "is_number" p g
  ok : FnR P w K mg base CX0 2 g (spIsNum K C)
def spUn (C : Addr) (r : Rat → Rat) : Sp := fun vs H Q _ => ∃ (v : V) (q : Rat), vs = [v] ∧ AmAt C H v q ∧ SzQ q ∧ ∀ p H', Same H H' → AmAt C H' p (r q) → Q p H'
def spBin (C : Addr) (r : Rat → Rat → Rat) : Sp := fun vs H Q _ => ∃ (v o : V) (q q2 : Rat) (n m : Nat), vs = [v, o] ∧ AmAt C H v q ∧ NumAt C H o q2 ∧ SzN n q ∧ SzN m q2 ∧ n + m ≤ 8000 ∧ ∀ p H', Same H H' → AmAt C H' p (r q q2) → Q p H'
def absQ (q : Rat) : Rat := Rat.divInt q.num.natAbs q.den
theorem sc_neg : FnScope ["self"] ["self"] (defScope s_Amount_neg) := ⟨rfl, rfl, rfl, by decide +kernel, rfl, by decide +kernel, by decide +kernel⟩
theorem ok_neg {f C fI : Addr} {fd fdI : FuncData} (F : FnP K "__neg__" "Amount.__neg__" s_Amount_neg [] f fd) (T : AmC K mg C) (M : AmMk P w K mg base C fI fdI) : FnOk P w K mg base CX0 4 f fd ["self"] (spUn C (fun q => -q)) := by
  refine F.ok sc_neg (fun vs H Q E h => ?_) (fun cdv A outer s H vs Q E hr h => ?_)
  · obtain ⟨v, q, rfl, _⟩ := h
    rfl
  · obtain ⟨v, q, rfl, ⟨a, dx, rfl, ha⟩, z1, k⟩ := h
    refine ⟨_, PSs.nox (pss_one (ps_ret (pe_make M.mks M.ok hr rfl T.mgC M.b2 .nil pass0 (pa_cons (pe_un un_neg (pe_fld (pv 0) rfl)) (pa_cons (pe_fld (pv 0) rfl) pa_nil))))), ?_⟩
    refine ⟨_, rfl, a, C, dx, _, _, rfl, ha, T.cl, T.nT, lk_top q, _, rfl, _, rfl, a, C, dx, _, _, rfl, ha, T.cl, T.nB, lk_bot q, fun x dx2 hx hdx hne => ⟨x, dx2, _, _, rfl, upd_same, den_ne q, z1.2, fun H' h1 h2 => ⟨rfl, ?_⟩⟩⟩
    refine k _ _ (mk_same hx hdx h1) ⟨x, dx2, rfl, ?_⟩
    rw [h2]
    dsimp only
    rw [q_neg]
theorem sc_abs : FnScope ["self"] ["self"] (defScope s_Amount_abs) := ⟨rfl, rfl, rfl, by decide +kernel, rfl, by decide +kernel, by decide +kernel⟩
theorem ok_abs {f C fI : Addr} {fd fdI : FuncData} (F : FnP K "__abs__" "Amount.__abs__" s_Amount_abs [] f fd) (T : AmC K mg C) (M : AmMk P w K mg base C fI fdI) (ma : mg "abs" = none) : FnOk P w K mg base CX0 4 f fd ["self"] (spUn C (absQ)) := by
  refine F.ok sc_abs (fun vs H Q E h => ?_) (fun cdv A outer s H vs Q E hr h => ?_)
  · obtain ⟨v, q, rfl, _⟩ := h
    rfl
  · obtain ⟨v, q, rfl, ⟨a, dx, rfl, ha⟩, z1, k⟩ := h
    refine ⟨_, PSs.nox (pss_one (ps_ret (pe_make M.mks M.ok hr rfl T.mgC M.b2 .nil pass0 (pa_cons (pe_callB call_abs (by rfl) ma (by decide +kernel) (pa_cons (pe_fld (pv 0) rfl) pa_nil)) (pa_cons (pe_fld (pv 0) rfl) pa_nil))))), ?_⟩
    refine ⟨_, rfl, a, C, dx, _, _, rfl, ha, T.cl, T.nT, lk_top q, _, rfl, _, rfl, a, C, dx, _, _, rfl, ha, T.cl, T.nB, lk_bot q, fun x dx2 hx hdx hne => ⟨x, dx2, _, _, rfl, upd_same, den_ne q, z1.2, fun H' h1 h2 => ⟨rfl, ?_⟩⟩⟩
    refine k _ _ (mk_same hx hdx h1) ⟨x, dx2, rfl, ?_⟩
    rw [h2]
    show some (HO.ins C dx2 (amF (Rat.divInt (if q.num < 0 then -q.num else q.num) q.den))) = _
    rw [show (if q.num < 0 then -q.num else q.num) = (q.num.natAbs : Int) by split <;> omega]
    rfl
theorem sc_add : FnScope ["self", "other", "right"] ["self", "other"] (defScope s_Amount_add) := ⟨rfl, rfl, rfl, by decide +kernel, rfl, by decide +kernel, by decide +kernel⟩
theorem ok_add {f C fI p g p2 g2 : Addr} {fd fdI : FuncData} (F : FnP K "__add__" "Amount.__add__" s_Amount_add [] f fd) (T : AmC K mg C) (M : AmMk P w K mg base C fI fdI) (O : AmOf P w K mg base C p g) (N : AmIsN P w K mg base C p2 g2) : FnOk P w K mg base CX0 5 f fd ["self", "other"] (spBin C (fun q q2 => q + q2)) := by
  refine F.ok sc_add (fun vs H Q E h => ?_) (fun cdv A outer s H vs Q E hr h => ?_)
  · obtain ⟨v, o, q, q2, n, m, rfl, _⟩ := h
    rfl
  · obtain ⟨v, o, q, q2, n, m, rfl, ⟨a, dx, rfl, ha⟩, ho, s1, s2, hnm, k⟩ := h
    have z1 := s1.sz (by omega)
    have z2 := s2.sz (by omega)
    refine ⟨_, PSs.nox (pss_cons (ps_if (PW.pt (pw_and (pt_not (pt_val (pe_smeth (pe_glob (v := .ref C) (by rfl) T.mgC rfl) O.rd N.sm N.ok (hr.mono (by decide)) pass0 (pa_cons (pv 1) pa_nil)))) (pw_and1 pt_none))) (pss_one ps_never) pss_nil)
      (pss_cons (ps_set (i := 2) sc_add.nd rfl (.inl rfl) (pe_smeth (pe_glob (v := .ref C) (by rfl) T.mgC rfl) O.rd O.sm O.ok hr pass0 (pa_cons (pv 1) pa_nil)))
      (pss_one (ps_ret (pe_make M.mks M.ok (hr.mono (by decide)) rfl T.mgC M.b2 .nil pass0 (pa_cons (pe_op op_add (pe_op op_mulW (pe_fld (pv 0) rfl) (pe_fld (pv 2) rfl)) (pe_op op_mulW (pe_fld (pv 2) rfl) (pe_fld (pv 0) rfl))) (pa_cons (pe_op op_mulW (pe_fld (pv 0) rfl) (pe_fld (pv 2) rfl)) pa_nil))))))), ?_⟩
    refine ⟨rfl, _, rfl, o, some q2, rfl, ho, _, rfl, iteF (iteF ?_)⟩
    refine ⟨rfl, _, rfl, o, q2, rfl, ho, fun r H1 e hr2 => ?_⟩
    obtain ⟨a2, dx2, rfl, ha2⟩ := hr2
    have ha' := e _ _ ha
    refine ⟨_, rfl, a, C, dx, _, _, rfl, ha', T.cl, T.nT, lk_top q, _, rfl, a2, C, dx2, _, _, rfl, ha2, T.cl, T.nB, lk_bot q2, _, _, rfl, rfl, mulW z1.1 z2.2, _, rfl, a2, C, dx2, _, _, rfl, ha2, T.cl, T.nT, lk_top q2, _, rfl, a, C, dx, _, _, rfl, ha', T.cl, T.nB, lk_bot q, _, _, rfl, rfl, mulW z2.1 z1.2, _, _, rfl, rfl, _, rfl, a, C, dx, _, _, rfl, ha', T.cl, T.nB, lk_bot q, _, rfl, a2, C, dx2, _, _, rfl, ha2, T.cl, T.nB, lk_bot q2, _, _, rfl, rfl, mulW z1.2 z2.2, fun x dx3 hx hdx hne => ⟨x, dx3, _, _, rfl, upd_same, Int.mul_ne_zero (den_ne q) (den_ne q2), bits_of (sz_dd s1 s2) (by omega), fun H' h1 h2 => ⟨rfl, ?_⟩⟩⟩
    refine k _ _ (e.trans (mk_same hx hdx h1)) ⟨x, dx3, rfl, ?_⟩
    rw [h2]
    dsimp only
    rw [q_add]
theorem sc_sub : FnScope ["self", "other", "right"] ["self", "other"] (defScope s_Amount_sub) := ⟨rfl, rfl, rfl, by decide +kernel, rfl, by decide +kernel, by decide +kernel⟩
theorem ok_sub {f C fI p g p2 g2 : Addr} {fd fdI : FuncData} (F : FnP K "__sub__" "Amount.__sub__" s_Amount_sub [] f fd) (T : AmC K mg C) (M : AmMk P w K mg base C fI fdI) (O : AmOf P w K mg base C p g) (N : AmIsN P w K mg base C p2 g2) : FnOk P w K mg base CX0 5 f fd ["self", "other"] (spBin C (fun q q2 => q - q2)) := by
  refine F.ok sc_sub (fun vs H Q E h => ?_) (fun cdv A outer s H vs Q E hr h => ?_)
  · obtain ⟨v, o, q, q2, n, m, rfl, _⟩ := h
    rfl
  · obtain ⟨v, o, q, q2, n, m, rfl, ⟨a, dx, rfl, ha⟩, ho, s1, s2, hnm, k⟩ := h
    have z1 := s1.sz (by omega)
    have z2 := s2.sz (by omega)
    refine ⟨_, PSs.nox (pss_cons (ps_if (PW.pt (pw_and (pt_not (pt_val (pe_smeth (pe_glob (v := .ref C) (by rfl) T.mgC rfl) O.rd N.sm N.ok (hr.mono (by decide)) pass0 (pa_cons (pv 1) pa_nil)))) (pw_and1 pt_none))) (pss_one ps_never) pss_nil)
      (pss_cons (ps_set (i := 2) sc_sub.nd rfl (.inl rfl) (pe_smeth (pe_glob (v := .ref C) (by rfl) T.mgC rfl) O.rd O.sm O.ok hr pass0 (pa_cons (pv 1) pa_nil)))
      (pss_one (ps_ret (pe_make M.mks M.ok (hr.mono (by decide)) rfl T.mgC M.b2 .nil pass0 (pa_cons (pe_op op_sub (pe_op op_mulW (pe_fld (pv 0) rfl) (pe_fld (pv 2) rfl)) (pe_op op_mulW (pe_fld (pv 2) rfl) (pe_fld (pv 0) rfl))) (pa_cons (pe_op op_mulW (pe_fld (pv 0) rfl) (pe_fld (pv 2) rfl)) pa_nil))))))), ?_⟩
    refine ⟨rfl, _, rfl, o, some q2, rfl, ho, _, rfl, iteF (iteF ?_)⟩
    refine ⟨rfl, _, rfl, o, q2, rfl, ho, fun r H1 e hr2 => ?_⟩
    obtain ⟨a2, dx2, rfl, ha2⟩ := hr2
    have ha' := e _ _ ha
    refine ⟨_, rfl, a, C, dx, _, _, rfl, ha', T.cl, T.nT, lk_top q, _, rfl, a2, C, dx2, _, _, rfl, ha2, T.cl, T.nB, lk_bot q2, _, _, rfl, rfl, mulW z1.1 z2.2, _, rfl, a2, C, dx2, _, _, rfl, ha2, T.cl, T.nT, lk_top q2, _, rfl, a, C, dx, _, _, rfl, ha', T.cl, T.nB, lk_bot q, _, _, rfl, rfl, mulW z2.1 z1.2, _, _, rfl, rfl, _, rfl, a, C, dx, _, _, rfl, ha', T.cl, T.nB, lk_bot q, _, rfl, a2, C, dx2, _, _, rfl, ha2, T.cl, T.nB, lk_bot q2, _, _, rfl, rfl, mulW z1.2 z2.2, fun x dx3 hx hdx hne => ⟨x, dx3, _, _, rfl, upd_same, Int.mul_ne_zero (den_ne q) (den_ne q2), bits_of (sz_dd s1 s2) (by omega), fun H' h1 h2 => ⟨rfl, ?_⟩⟩⟩
    refine k _ _ (e.trans (mk_same hx hdx h1)) ⟨x, dx3, rfl, ?_⟩
    rw [h2]
    dsimp only
    rw [q_sub]
theorem sc_mul : FnScope ["self", "other", "right"] ["self", "other"] (defScope s_Amount_mul) := ⟨rfl, rfl, rfl, by decide +kernel, rfl, by decide +kernel, by decide +kernel⟩
theorem ok_mul {f C fI p g p2 g2 : Addr} {fd fdI : FuncData} (F : FnP K "__mul__" "Amount.__mul__" s_Amount_mul [] f fd) (T : AmC K mg C) (M : AmMk P w K mg base C fI fdI) (O : AmOf P w K mg base C p g) (N : AmIsN P w K mg base C p2 g2) : FnOk P w K mg base CX0 5 f fd ["self", "other"] (spBin C (fun q q2 => q * q2)) := by
  refine F.ok sc_mul (fun vs H Q E h => ?_) (fun cdv A outer s H vs Q E hr h => ?_)
  · obtain ⟨v, o, q, q2, n, m, rfl, _⟩ := h
    rfl
  · obtain ⟨v, o, q, q2, n, m, rfl, ⟨a, dx, rfl, ha⟩, ho, s1, s2, hnm, k⟩ := h
    have z1 := s1.sz (by omega)
    have z2 := s2.sz (by omega)
    refine ⟨_, PSs.nox (pss_cons (ps_if (PW.pt (pw_and (pt_not (pt_val (pe_smeth (pe_glob (v := .ref C) (by rfl) T.mgC rfl) O.rd N.sm N.ok (hr.mono (by decide)) pass0 (pa_cons (pv 1) pa_nil)))) (pw_and1 pt_none))) (pss_one ps_never) pss_nil)
      (pss_cons (ps_set (i := 2) sc_mul.nd rfl (.inl rfl) (pe_smeth (pe_glob (v := .ref C) (by rfl) T.mgC rfl) O.rd O.sm O.ok hr pass0 (pa_cons (pv 1) pa_nil)))
      (pss_one (ps_ret (pe_make M.mks M.ok (hr.mono (by decide)) rfl T.mgC M.b2 .nil pass0 (pa_cons (pe_op op_mulW (pe_fld (pv 0) rfl) (pe_fld (pv 2) rfl)) (pa_cons (pe_op op_mulW (pe_fld (pv 0) rfl) (pe_fld (pv 2) rfl)) pa_nil))))))), ?_⟩
    refine ⟨rfl, _, rfl, o, some q2, rfl, ho, _, rfl, iteF (iteF ?_)⟩
    refine ⟨rfl, _, rfl, o, q2, rfl, ho, fun r H1 e hr2 => ?_⟩
    obtain ⟨a2, dx2, rfl, ha2⟩ := hr2
    have ha' := e _ _ ha
    refine ⟨_, rfl, a, C, dx, _, _, rfl, ha', T.cl, T.nT, lk_top q, _, rfl, a2, C, dx2, _, _, rfl, ha2, T.cl, T.nT, lk_top q2, _, _, rfl, rfl, mulW z1.1 z2.1, _, rfl, a, C, dx, _, _, rfl, ha', T.cl, T.nB, lk_bot q, _, rfl, a2, C, dx2, _, _, rfl, ha2, T.cl, T.nB, lk_bot q2, _, _, rfl, rfl, mulW z1.2 z2.2, fun x dx3 hx hdx hne => ⟨x, dx3, _, _, rfl, upd_same, Int.mul_ne_zero (den_ne q) (den_ne q2), bits_of (sz_dd s1 s2) (by omega), fun H' h1 h2 => ⟨rfl, ?_⟩⟩⟩
    refine k _ _ (e.trans (mk_same hx hdx h1)) ⟨x, dx3, rfl, ?_⟩
    rw [h2]
    dsimp only
    rw [q_mul]
end
end SP
set_option Elab.async false
set_option linter.all false
set_option maxRecDepth 100000
set_option maxHeartbeats 400000
namespace SP
open PySem PySem.Spec PyProof.Rows L2
/-- the text of an int, of an Amount -/
def iText (i : Int) : Str := Str.ofString (toString i)
def amText (q : Rat) : Str := if q.den = 1 then iText q.num else iText q.num ++ ("/" : Str) ++ iText (q.den : Int)
def TxQ (q : Rat) : Prop := q.num.natAbs.log2 < 1900 ∧ q.den.log2 < 1900
theorem iText_len {i : Int} (h : i.natAbs.log2 < 1900) : (iText i).length ≤ 1921 := int_text_len_1921 (by omega)
theorem amText_len {q : Rat} (h : TxQ q) : (amText q).length ≤ 4000 := by
  unfold amText
  split
  · exact Nat.le_trans (iText_len h.1) (by decide)
  · have h1 := iText_len h.1
    have h2 := iText_len (i := (q.den : Int)) (by simpa using h.2)
    rw [PySem.Str.length_append, PySem.Str.length_append]
    have h3 : ("/" : Str).length = 1 := by decide +kernel
    omega
section
variable {P : Program} {w : World} {K : PySem.W.Frag} {mg : Str → Option Value} {base : Heap}
def spStr (C : Addr) : Sp := fun vs H Q _ => ∃ (v : V) (q : Rat), vs = [v] ∧ AmAt C H v q ∧ TxQ q ∧ Q (.str (amText q)) H
theorem sc_str : FnScope ["self"] ["self"] (defScope s_Amount_str) := ⟨rfl, rfl, rfl, by decide +kernel, rfl, by decide +kernel, by decide +kernel⟩
theorem ok_str {f C : Addr} {fd : FuncData} (F : FnP K "__str__" "Amount.__str__" s_Amount_str [] f fd) (T : AmC K mg C) (ms : mg "str" = none) : FnOk P w K mg base CX0 1 f fd ["self"] (spStr C) := by
  refine F.ok sc_str (fun vs H Q E h => ?_) (fun cdv A outer s H vs Q E hr h => ?_)
  · obtain ⟨v, q, rfl, _⟩ := h
    rfl
  · obtain ⟨v, q, rfl, ⟨a, dx, rfl, ha⟩, z, k⟩ := h
    refine ⟨_, PSs.nox (pss_cons (ps_if (pt_cmpR op_eq (pe_fld (pv 0) rfl) pe_int (nomark _)) (pss_one (ps_ret (pe_callTy call_str_int (by rfl) ms (by decide +kernel) (pa_cons (pe_fld (pv 0) rfl) pa_nil)))) pss_nil)
      (pss_one (ps_ret (pe_joined (.cons (pe_fmt (pe_fld (pv 0) rfl)) (.cons pe_str (.cons (pe_fmt (pe_fld (pv 0) rfl)) .nil))))))), ?_⟩
    have hden : ((q.den : Int)).natAbs.log2 < 1900 := by simpa using z.2
    refine ⟨_, rfl, a, C, dx, _, _, rfl, ha, T.cl, T.nB, lk_bot q, rfl, _, rfl, ?_⟩
    refine ite2 (fun h1 => ?_) (fun h1 => ?_)
    · refine ⟨_, rfl, a, C, dx, _, _, rfl, ha, T.cl, T.nT, lk_top q, _, rfl, Nat.lt_of_lt_of_le z.1 (by decide), ?_⟩
      have h1 := of_decide_eq_true h1
      injection h1 with h1
      have e : amText q = iText q.num := if_pos (by omega)
      rw [e] at k
      exact k
    · have h2 : ¬ q.den = 1 := fun z => h1 (decide_eq_true (by rw [z]; rfl))
      have e : amText q = iText q.num ++ ("/" : Str) ++ iText (q.den : Int) := if_neg h2
      have l1 := iText_len z.1
      have l2 := iText_len hden
      have h3 : ("/" : Str).length = 1 := by decide +kernel
      have l0 : Str.empty.length = 0 := by decide +kernel
      have sl : sizeLine = 16777216 := by decide
      refine ⟨_, rfl, a, C, dx, _, _, rfl, ha, T.cl, T.nT, lk_top q, .inr ⟨_, rfl, Nat.lt_of_lt_of_le z.1 (by decide), _, rfl, ?_, ?_⟩⟩
      · show (Str.empty ++ iText q.num).length ≤ sizeLine
        rw [PySem.Str.length_append]
        omega
      refine ⟨_, rfl, ?_, ?_⟩
      · show (Str.empty ++ iText q.num ++ ("/" : Str)).length ≤ sizeLine
        rw [PySem.Str.length_append, PySem.Str.length_append]
        omega
      refine ⟨_, rfl, a, C, dx, _, _, rfl, ha, T.cl, T.nB, lk_bot q, .inr ⟨_, rfl, Nat.lt_of_lt_of_le hden (by decide), _, rfl, ?_, ?_⟩⟩
      · show (Str.empty ++ iText q.num ++ ("/" : Str) ++ iText (q.den : Int)).length ≤ sizeLine
        rw [PySem.Str.length_append, PySem.Str.length_append, PySem.Str.length_append]
        omega
      · show Q (.str (Str.empty ++ iText q.num ++ ("/" : Str) ++ iText (q.den : Int))) H
        have e0 : Str.empty ++ iText q.num = iText q.num := by
          exact PySem.Str.empty_append _
        rw [e0, ← e]
        exact k
end
end SP
set_option Elab.async false
set_option linter.all false
set_option maxRecDepth 100000
set_option maxHeartbeats 400000
namespace SP
open PySem PySem.Spec PyProof.Rows L2
/-! ### the pen -/
/-- all but the pen stays -/
def FrP (pen : Addr) (H H' : Hp) : Prop := (∀ b o, b ≠ pen → H b = some o → H' b = some o) ∧ ∀ c k r, H pen = some (.lst [.ref c, .int k, .int r]) → ∃ k' r', H' pen = some (.lst [.ref c, .int k', .int r'])
theorem FrP.refl (pen : Addr) (H : Hp) : FrP pen H H := ⟨fun _ _ _ h => h, fun c k r h => ⟨k, r, h⟩⟩
theorem FrP.trans {pen : Addr} {H H1 H2 : Hp} (a : FrP pen H H1) (b : FrP pen H1 H2) : FrP pen H H2 := ⟨fun c o n h => b.1 c o n (a.1 c o n h), fun c k r h => let ⟨k', r', h'⟩ := a.2 c k r h; b.2 c k' r' h'⟩
theorem frp_of {pen : Addr} {H H' : Hp} (a : Same H H') : FrP pen H H' := ⟨fun b o _ h => a b o h, fun c k r h => ⟨k, r, a _ _ h⟩⟩
theorem FrP.upd {pen : Addr} {H H' : Hp} {c : Addr} {k r k0 r0 : Int} (a : FrP pen H H') (h0 : H pen = some (.lst [.ref c, .int k0, .int r0])) : FrP pen H (upd H' pen (.lst [.ref c, .int k, .int r])) := ⟨fun b u n h => by
  rw [upd_ne n]
  exact a.1 b u n h, fun c' k' r' h => by
  rw [h0] at h
  injection h with h
  injection h with h
  injection h with h1 h2
  injection h1 with h1
  exact ⟨k, r, by rw [upd_same, h1]⟩⟩
structure PenAt (H : Hp) (pen : Addr) (n : Nat) : Prop where
  ex : ∃ (cells : Addr) (ns : List Int) (k r : Int), H pen = some (.lst [.ref cells, .int k, .int r]) ∧ H cells = some (.lst (ns.map V.int)) ∧ cells ≠ pen ∧ ns.length ≤ 63 ∧ 0 ≤ k ∧ k ≤ n ∧ 0 ≤ r
theorem PenAt.mono {H : Hp} {pen : Addr} {n m : Nat} (h : PenAt H pen n) (e : n ≤ m) : PenAt H pen m := by
  obtain ⟨c, ns, k, r, h1, h2, h3, h4, h5, h6, h7⟩ := h.ex
  exact ⟨c, ns, k, r, h1, h2, h3, h4, h5, by omega, h7⟩
theorem PenAt.same {H H' : Hp} {pen : Addr} {n : Nat} (h : PenAt H pen n) (e : Same H H') : PenAt H' pen n := by
  obtain ⟨c, ns, k, r, h1, h2, h3, h4, h5, h6, h7⟩ := h.ex
  exact ⟨c, ns, k, r, e _ _ h1, e _ _ h2, h3, h4, h5, h6, h7⟩
theorem PenAt.upd {H H2 : Hp} {pen m : Addr} {n n0 : Nat} {o : HO} (h0 : PenAt H pen n0) (hm : H m = none) (fr : FrP pen H H2) (h : PenAt H2 pen n) : PenAt (L2.upd H2 m o) pen n := by
  obtain ⟨c0, _, _, _, a1, a2, _⟩ := h0.ex
  obtain ⟨c, ns, k, r, h1, h2, h3, h4, h5, h6, h7⟩ := h.ex
  obtain ⟨k', r', e⟩ := fr.2 _ _ _ a1
  rw [h1] at e
  injection e with e
  injection e with e
  injection e with e1 _
  injection e1 with e1
  subst e1
  exact ⟨c, ns, k, r, by rw [upd_ne (ne_of_none a1 hm)]; exact h1, by rw [upd_ne (ne_of_none a2 hm)]; exact h2, h3, h4, h5, h6, h7⟩
def spDraw : Sp := fun vs H Q _ => ∃ (pen : Addr) (many : Int) (n : Nat), vs = [.ref pen, .int many] ∧ PenAt H pen n ∧ n < 1000000 ∧ 0 < many ∧ Bits many ∧
  ∀ d H', 0 ≤ d → d < many → PenAt H' pen (n + 1) → FrP pen H H' → Q (.int d) H'
theorem dp_ints {K : PySem.W.Frag} {H : Hp} : ∀ ns : List Int, DpAll K H (ns.map V.int) (ns.map PyData.int)
  | [] => .nil
  | i :: r => .cons (.int i) (dp_ints r)
theorem shaped_ints : ∀ ns : List Int, SeqAt.shaped (.list (ns.map PyData.int)) = true := by
  intro ns
  have h : ∀ l : List Int, PyData.canLayAll0 (l.map PyData.int) = true := fun l => by
    induction l with
    | nil => rfl
    | cons a r ih => simpa [PyData.canLayAll0, PyData.canLay0] using ih
  have h2 : ∀ l : List Int, PyData.depthAll (l.map PyData.int) ≤ 1 := fun l => by
    induction l with
    | nil => exact Nat.zero_le _
    | cons a r ih => simp [PyData.depthAll, PyData.depth]; omega
  unfold SeqAt.shaped
  rw [show (PyData.list (ns.map PyData.int)).canLay0 = true by simpa [PyData.canLay0] using h ns]
  rw [Bool.true_and]
  refine decide_eq_true ?_
  have := h2 ns
  simp [PyData.depth]
  omega
theorem eqv_nil (ns : List Int) : PyData.eqv (.list (ns.map PyData.int)) (.list []) = decide (ns = []) := by
  cases ns with
  | nil => rfl
  | cons a r => rfl
theorem pm {j : Int} (h : 0 < j) : 0 < j := h
theorem great_nonneg {c : Int} (h : (10 : Int) ^ (18 : Int).toNat ≤ if c < 0 then -c else c) : 0 ≤ 2 * ((if c < 0 then -c else c) - (10 : Int) ^ (18 : Int).toNat) + (if decide (c < 0) = true then 1 else 0) := by
  split <;> omega
theorem mix1 {c p a kk d : Int} (hp : 0 < p ∧ p < 2 ^ 31) (h5 : 0 ≤ kk) (hk : kk < 1000000) (ha : 0 ≤ a) (ha2 : a < 2 ^ 20) (hd : 0 ≤ d) (hd2 : d < 2 ^ 20) : (c % p + a * kk + d).natAbs < 2 ^ 64 := by
  have h1 := Int.emod_nonneg c (show p ≠ 0 by omega)
  have h2 := Int.emod_lt_of_pos c hp.1
  have h3 : 0 ≤ a * kk := Int.mul_nonneg ha h5
  have h4 : a * kk ≤ 2 ^ 20 * 1000000 := Int.mul_le_mul (by omega) (by omega) h5 (by decide)
  omega
theorem mixM {x p : Int} (hp : 0 < p) (hp2 : p < 2 ^ 31) : -(2 ^ 64) < x % p ∧ x % p < 2 ^ 64 := by
  have h1 := Int.emod_nonneg x (show p ≠ 0 by omega)
  have h2 := Int.emod_lt_of_pos x hp
  omega
theorem mixK {a kk : Int} (h5 : 0 ≤ kk) (hk : kk < 1000000) (ha : 0 ≤ a) (ha2 : a < 2 ^ 20) : -(2 ^ 64) < a * kk ∧ a * kk < 2 ^ 64 := by
  have h3 : 0 ≤ a * kk := Int.mul_nonneg ha h5
  have h4 : a * kk ≤ 2 ^ 20 * 1000000 := Int.mul_le_mul (by omega) (by omega) h5 (by decide)
  omega
theorem mix2 {x p a b d kk : Int} (hp : 0 < p) (hp2 : p < 2 ^ 31) (h5 : 0 ≤ kk) (hk : kk < 1000000) (ha : 0 ≤ a) (ha2 : a < 2 ^ 20) (hb : 0 ≤ b) (hb2 : b < 2 ^ 20) (hd : 0 ≤ d) (hd2 : d < 2 ^ 20) : (x % p * (2 * kk + a) + b * kk * kk + d).natAbs < 2 ^ 64 := by
  have h1 := Int.emod_nonneg x (show p ≠ 0 by omega)
  have h2 := Int.emod_lt_of_pos x hp
  have q1 : 0 ≤ x % p * (2 * kk + a) := Int.mul_nonneg h1 (by omega)
  have q2 : x % p * (2 * kk + a) ≤ 2 ^ 31 * (2 * 1000000 + 2 ^ 20) := Int.mul_le_mul (by omega) (by omega) (by omega) (by decide)
  have h3 : 0 ≤ b * kk := Int.mul_nonneg hb h5
  have h4 : b * kk ≤ 2 ^ 20 * 1000000 := Int.mul_le_mul (by omega) (by omega) h5 (by decide)
  have q3 : 0 ≤ b * kk * kk := Int.mul_nonneg h3 h5
  have q4 : b * kk * kk ≤ 2 ^ 20 * 1000000 * 1000000 := Int.mul_le_mul h4 (by omega) h5 (by decide)
  omega
section
variable {P : Program} {w : World} {K : PySem.W.Frag} {mg : Str → Option Value} {base : Heap}
theorem sc_draw : FnScope ["_law_pen_here", "_law_many", "_law_digit", "_law_at", "_law_cell", "_law_great", "_law_mixed"] ["_law_pen_here", "_law_many"] (defScope s_law_draw) := ⟨rfl, rfl, rfl, by decide +kernel, rfl, by decide +kernel, by decide +kernel⟩
theorem ok_draw {f : Addr} {fd : FuncData} (F : FnP K "_law_draw" "_law_draw" s_law_draw [] f fd) (mi : mg "int" = none) (ml : mg "len" = none) (ma : mg "abs" = none) : FnOk P w K mg base CX0 1 f fd ["_law_pen_here", "_law_many"] spDraw := by
  refine F.ok sc_draw (fun vs H Q E h => ?_) (fun cdv A outer s H vs Q E hr h => ?_)
  · obtain ⟨pen, many, n, rfl, _⟩ := h
    rfl
  · obtain ⟨pen, many, n, rfl, hp, hn, hm, hbm, k⟩ := h
    obtain ⟨cells, ns, kk, r, h1, h2, h3, h4, h5, h6, h7⟩ := hp.ex
    refine ⟨_, PSs.nox (pss_cons (ps_if (pt_cmpR op_gt (pe_ix ix_list (pv 0) pe_int (fun _ _ => rfl)) pe_int (nomark _))
        (pss_cons (ps_set (i := 2) sc_draw.nd rfl (.inl rfl) (pe_op op_mod (pe_callTy call_int1 (by rfl) mi (by decide +kernel) (pa_cons (pe_ix ix_list (pv 0) pe_int (fun _ _ => rfl)) pa_nil)) (pv 1)))
        (pss_cons (ps_asg (pe_op op_fdivW (pe_callTy call_int1 (by rfl) mi (by decide +kernel) (pa_cons (pe_ix ix_list (pv 0) pe_int (fun _ _ => rfl)) pa_nil)) (pv 1)) (pg_sub (pv 0) pe_int set_list))
        (pss_one (ps_ret (pv 2))))) pss_nil)
      (pss_cons (ps_set (i := 3) sc_draw.nd rfl (.inl rfl) (pe_ix ix_list (pv 0) pe_int (fun _ _ => rfl)))
      (pss_cons (ps_asg (pe_op op_add (pv 3) pe_int) (pg_sub (pv 0) pe_int set_list))
      (pss_cons (ps_set (i := 4) sc_draw.nd rfl (.inl rfl) (pe_op op_add (pe_op op_mul pe_int (pv 3)) pe_int))
      (pss_cons (ps_if (pt_cmpR (op_neD hr.units) (pe_ix ix_list (pv 0) pe_int (fun _ _ => rfl)) (pe_lst pa_nil) (nomark _))
        (pss_one (ps_set (i := 4) sc_draw.nd rfl (.inl rfl) (pe_ix ix_list (pe_ix ix_list (pv 0) pe_int (fun _ _ => rfl)) (pe_op op_mod (pe_callTy call_int1 (by rfl) mi (by decide +kernel) (pa_cons (pv 3) pa_nil)) (pe_callB call_len_seq (by rfl) ml (by decide +kernel) (pa_cons (pe_ix ix_list (pv 0) pe_int (fun _ _ => rfl)) pa_nil))) (fun _ _ => rfl)))) pss_nil)
      (pss_cons (ps_if (PW.pt (pw_and (pt_cmpR op_lt (pv 3) (pe_callB call_len_seq (by rfl) ml (by decide +kernel) (pa_cons (pe_ix ix_list (pv 0) pe_int (fun _ _ => rfl)) pa_nil)) (nomark _)) (pw_and1 (pt_cmpR op_ge (pe_callB call_abs (by rfl) ma (by decide +kernel) (pa_cons (pv 4) pa_nil)) (pe_op op_pow pe_int pe_int) (nomark _)))))
        (pss_cons (ps_set (i := 5) sc_draw.nd rfl (.inl rfl) (pe_op op_add (pe_op op_mul pe_int (pe_op op_sub (pe_callB call_abs (by rfl) ma (by decide +kernel) (pa_cons (pv 4) pa_nil)) (pe_op op_pow pe_int pe_int))) (pe_callTy call_int1 (by rfl) mi (by decide +kernel) (pa_cons (pe_cmpR op_lt (pv 4) pe_int (nomark _)) pa_nil))))
        (pss_cons (ps_asg (pe_op op_fdivW (pe_callTy call_int1 (by rfl) mi (by decide +kernel) (pa_cons (pv 5) pa_nil)) (pv 1)) (pg_sub (pv 0) pe_int set_list))
        (pss_one (ps_ret (pe_op op_mod (pe_callTy call_int1 (by rfl) mi (by decide +kernel) (pa_cons (pv 5) pa_nil)) (pv 1)))))) pss_nil)
      (pss_cons (ps_set (i := 6) sc_draw.nd rfl (.inl rfl) (pe_op op_mod (pe_callTy call_int1 (by rfl) mi (by decide +kernel) (pa_cons (pe_op op_pow (pe_op op_add (pe_op op_add (pe_op op_mod (pe_callTy call_int1 (by rfl) mi (by decide +kernel) (pa_cons (pv 4) pa_nil)) pe_int) (pe_op op_mul pe_int (pv 3))) pe_int) pe_int) pa_nil)) pe_int))
      (pss_cons (ps_set (i := 6) sc_draw.nd rfl (.inl rfl) (pe_op op_mod (pe_callTy call_int1 (by rfl) mi (by decide +kernel) (pa_cons (pe_op op_pow (pe_op op_add (pe_op op_add (pe_op op_mul (pv 6) (pe_op op_add (pe_op op_mul pe_int (pv 3)) pe_int)) (pe_op op_mul (pe_op op_mul pe_int (pv 3)) (pv 3))) pe_int) pe_int) pa_nil)) pe_int))
      (pss_one (ps_ret (pe_op op_mod (pe_callTy call_int1 (by rfl) mi (by decide +kernel) (pa_cons (pe_op op_fdiv (pv 6) pe_int) pa_nil)) (pv 1)))))))))))), ?_⟩
    have wd : ∀ i : Int, CDivW i many := fun i => ⟨hm, hbm⟩
    have m0 : ∀ i : Int, 0 ≤ i % many := fun i => Int.emod_nonneg i (by omega)
    have m1 : ∀ i : Int, i % many < many := fun i => Int.emod_lt_of_pos i hm
    have d0 : ∀ i : Int, 0 ≤ i → 0 ≤ i / many := fun i h => Int.ediv_nonneg h (by omega)
    refine ⟨_, rfl, pen, _, _, _, rfl, rfl, SqL.of h1, rfl, _, _, rfl, rfl, _, rfl, ?_⟩
    refine ite2 (fun hr0 => ?_) (fun hr0 => ?_)
    · -- a digit of a great cell
      refine ⟨_, rfl, pen, _, _, _, rfl, rfl, SqL.of h1, rfl, .inl ⟨_, rfl, _, rfl, _, _, rfl, rfl, hm, ?_⟩⟩
      refine ⟨_, rfl, pen, _, _, _, rfl, rfl, SqL.of h1, rfl, .inl ⟨_, rfl, _, rfl, _, _, rfl, rfl, wd _, ?_⟩⟩
      refine ⟨_, rfl, pen, _, _, 2, rfl, rfl, h1, rfl, _, rfl, ?_⟩
      refine k _ _ (m0 _) (m1 _) ⟨cells, ns, kk, _, upd_same, ?_, h3, h4, h5, by omega, d0 _ h7⟩ ((FrP.refl _ _).upd h1)
      rw [upd_ne h3]
      exact h2
    · -- the next cell
      refine ⟨_, rfl, pen, _, _, _, rfl, rfl, SqL.of h1, rfl, ?_⟩
      refine ⟨_, rfl, _, _, rfl, rfl, _, rfl, pen, _, _, 1, rfl, rfl, h1, rfl, ?_⟩
      have g1 : (upd H pen (.lst [.ref cells, .int (kk + 1), .int r])) pen = some (.lst [.ref cells, .int (kk + 1), .int r]) := upd_same
      have g2 : (upd H pen (.lst [.ref cells, .int (kk + 1), .int r])) cells = some (.lst (ns.map V.int)) := by
        rw [upd_ne h3]
        exact h2
      refine ⟨_, rfl, _, _, rfl, rfl, .inl ⟨by decide, by decide⟩, _, _, rfl, rfl, ?_⟩
      refine ⟨_, rfl, pen, _, _, _, rfl, rfl, SqL.of g1, rfl, (by show 0 ≤ sizeLine; decide), fun e he => ?_⟩
      have ne1 : pen ≠ e := ne_of_none g1 he
      have ne2 : cells ≠ e := ne_of_none g2 he
      refine ⟨.list (ns.map PyData.int), .list [], .lst (SqL.of (by rw [upd_ne ne2]; exact g2)) (dp_ints ns), .lst (SqL.of upd_same) .nil, shaped_ints ns, rfl, _, rfl, ?_⟩
      rw [eqv_nil]
      have G1 : (upd (upd H pen (.lst [.ref cells, .int (kk + 1), .int r])) e (.lst [])) pen = some (.lst [.ref cells, .int (kk + 1), .int r]) := by rw [upd_ne ne1]; exact g1
      have G2 : (upd (upd H pen (.lst [.ref cells, .int (kk + 1), .int r])) e (.lst [])) cells = some (.lst (ns.map V.int)) := by rw [upd_ne ne2]; exact g2
      have FR : FrP pen H (upd (upd H pen (.lst [.ref cells, .int (kk + 1), .int r])) e (.lst [])) := ((FrP.refl pen H).upd h1).trans (frp_of fun b o ho => by
        rw [upd_ne (ne_of_none ho he)]
        exact ho)
      have hk : kk < 1000000 := by omega
      refine ite2 (fun hne => ?_) (fun hne => ?_)
      have hns : ns ≠ [] := fun z => by rw [decide_eq_true z] at hne; cases hne
      have hl : 0 < ns.length := List.length_pos_iff.mpr hns
      obtain ⟨c, hc⟩ : ∃ c, atI (ns.map V.int) (kk % ((ns.map V.int).length : Int)) = some (V.int c) := by
        have e1 : ((kk % ((ns.map V.int).length : Int)).toNat : Int) = kk % ((ns.map V.int).length : Int) := Int.toNat_of_nonneg (Int.emod_nonneg _ (by rw [List.length_map]; omega))
        have e2 : kk % ((ns.map V.int).length : Int) < ((ns.map V.int).length : Int) := Int.emod_lt_of_pos _ (by rw [List.length_map]; omega)
        have e3 : (kk % ((ns.map V.int).length : Int)).toNat < ns.length := by rw [List.length_map] at e1 e2 ⊢; omega
        refine ⟨ns[(kk % ((ns.map V.int).length : Int)).toNat], ?_⟩
        have q := atI_nat (xs := ns.map V.int) (j := (kk % ((ns.map V.int).length : Int)).toNat) (v := V.int ns[(kk % ((ns.map V.int).length : Int)).toNat]) (by rw [List.getElem?_map, List.getElem?_eq_getElem e3]; rfl)
        rw [e1] at q
        exact q
      refine ⟨_, rfl, pen, _, _, _, rfl, rfl, SqL.of G1, rfl, _, rfl, .inl ⟨_, rfl, _, rfl, pen, _, _, _, rfl, rfl, SqL.of G1, rfl, cells, _, rfl, .inl (SqL.of G2), _, _, rfl, rfl, (by rw [List.length_map]; omega), ?_⟩⟩
      refine ⟨cells, _, _, _, rfl, rfl, SqL.of G2, hc, ?_⟩
      all_goals
        refine ⟨_, rfl, _, rfl, pen, _, _, _, rfl, rfl, SqL.of G1, rfl, cells, _, rfl, .inl (SqL.of G2), _, _, rfl, rfl, _, rfl, ?_⟩
        refine ite2 (fun hlt => ?_) (fun hlt => ?_)
        · refine ⟨_, rfl, _, rfl, _, _, rfl, rfl, ⟨by decide, by decide, by decide⟩, _, _, rfl, rfl, _, rfl, ?_⟩
          refine ite2 (fun hg => ?_) (fun hg => ?_)
          · refine ⟨_, rfl, _, rfl, _, _, rfl, rfl, ⟨by decide, by decide, by decide⟩, _, _, rfl, rfl, _, _, rfl, rfl, .inl ⟨by decide, by decide⟩, _, rfl, _, _, rfl, rfl, .inr ⟨_, rfl, _, _, rfl, rfl, ?_⟩⟩
            refine ⟨_, rfl, .inl ⟨_, rfl, _, rfl, _, _, rfl, rfl, wd _, _, rfl, pen, _, _, 2, rfl, rfl, G1, rfl, ?_⟩⟩
            refine ⟨_, rfl, .inl ⟨_, rfl, _, rfl, _, _, rfl, rfl, hm, ?_⟩⟩
            refine k _ _ (m0 _) (m1 _) ⟨cells, ns, kk + 1, _, upd_same, ?_, h3, h4, by omega, by omega, d0 _ ?_⟩ (FR.upd h1)
            · rw [upd_ne h3]
              exact G2
            · have hg := of_decide_eq_true hg
              exact great_nonneg hg
          · refine ⟨_, rfl, .inl ⟨_, rfl, _, _, rfl, rfl, (pm (by decide)), _, rfl, _, _, rfl, rfl, .inl ⟨by decide, by decide⟩, _, _, rfl, rfl, _, _, rfl, rfl, _, _, rfl, rfl, ⟨by decide, by decide, mix1 (by decide) h5 hk (by decide) (by decide) (by decide) (by decide)⟩, .inl ⟨_, rfl, _, _, rfl, rfl, (pm (by decide)), ?_⟩⟩⟩
            refine ⟨_, rfl, _, rfl, _, _, rfl, rfl, .inl ⟨by decide, by decide⟩, _, _, rfl, rfl, _, _, rfl, rfl, .inl (mixM (by decide) (by decide)), _, rfl, _, _, rfl, rfl, .inl ⟨by decide, by decide⟩, _, rfl, _, _, rfl, rfl, .inl (mixK h5 hk (by decide) (by decide)), _, _, rfl, rfl, _, _, rfl, rfl, _, _, rfl, rfl, ⟨by decide, by decide, mix2 (by decide) (by decide) h5 hk (by decide) (by decide) (by decide) (by decide) (by decide) (by decide)⟩, .inl ⟨_, rfl, _, _, rfl, rfl, (pm (by decide)), ?_⟩⟩
            refine ⟨_, rfl, _, _, rfl, rfl, ⟨by decide, by decide⟩, .inl ⟨_, rfl, _, rfl, _, _, rfl, rfl, hm, ?_⟩⟩
            exact k _ _ (m0 _) (m1 _) ⟨cells, ns, kk + 1, r, G1, G2, h3, h4, by omega, by omega, h7⟩ FR
        · refine ⟨_, rfl, .inl ⟨_, rfl, _, _, rfl, rfl, (pm (by decide)), _, rfl, _, _, rfl, rfl, .inl ⟨by decide, by decide⟩, _, _, rfl, rfl, _, _, rfl, rfl, _, _, rfl, rfl, ⟨by decide, by decide, mix1 (by decide) h5 hk (by decide) (by decide) (by decide) (by decide)⟩, .inl ⟨_, rfl, _, _, rfl, rfl, (pm (by decide)), ?_⟩⟩⟩
          refine ⟨_, rfl, _, rfl, _, _, rfl, rfl, .inl ⟨by decide, by decide⟩, _, _, rfl, rfl, _, _, rfl, rfl, .inl (mixM (by decide) (by decide)), _, rfl, _, _, rfl, rfl, .inl ⟨by decide, by decide⟩, _, rfl, _, _, rfl, rfl, .inl (mixK h5 hk (by decide) (by decide)), _, _, rfl, rfl, _, _, rfl, rfl, _, _, rfl, rfl, ⟨by decide, by decide, mix2 (by decide) (by decide) h5 hk (by decide) (by decide) (by decide) (by decide) (by decide) (by decide)⟩, .inl ⟨_, rfl, _, _, rfl, rfl, (pm (by decide)), ?_⟩⟩
          refine ⟨_, rfl, _, _, rfl, rfl, ⟨by decide, by decide⟩, .inl ⟨_, rfl, _, rfl, _, _, rfl, rfl, hm, ?_⟩⟩
          exact k _ _ (m0 _) (m1 _) ⟨cells, ns, kk + 1, r, G1, G2, h3, h4, by omega, by omega, h7⟩ FR
/-! ### the pen made, a pick -/
def spPen (K : PySem.W.Frag) : Sp := fun vs H Q _ => ∃ (a : Addr) (ns : List Int), vs = [.ref a] ∧ SqL K H a (ns.map V.int) ∧ ns.length ≤ 63 ∧ ∀ pen H', H pen = none → Same H H' → PenAt H' pen 0 → Q (.ref pen) H'
theorem cut_ints (ns : List Int) (lo hi : Option Int) : ∃ ms : List Int, cutV (ns.map V.int) lo hi = ms.map V.int ∧ ms.length ≤ ns.length := by
  unfold cutV
  rw [← List.map_drop, ← List.map_take]
  exact ⟨_, rfl, by rw [List.length_take, List.length_drop]; omega⟩
theorem sc_pen : FnScope ["_law_script"] ["_law_script"] (defScope s_law_pen) := ⟨rfl, rfl, rfl, by decide +kernel, rfl, by decide +kernel, by decide +kernel⟩
theorem ok_pen {f : Addr} {fd : FuncData} (F : FnP K "_law_pen" "_law_pen" s_law_pen [] f fd) (ml : mg "list" = none) : FnOk P w K mg base CX0 1 f fd ["_law_script"] (spPen K) := by
  refine F.ok sc_pen (fun vs H Q E h => ?_) (fun cdv A outer s H vs Q E hr h => ?_)
  · obtain ⟨a, ns, rfl, _⟩ := h
    rfl
  · obtain ⟨a, ns, rfl, hS, hl, k⟩ := h
    refine ⟨_, PSs.nox (pss_one (ps_ret (pe_lst (pa_cons (pe_callTy call_list_of (by rfl) ml (by decide +kernel) (pa_cons (pe_slice sl_list (pv 0) po_none (po_some pe_int)) pa_nil)) (pa_cons pe_int (pa_cons pe_int pa_nil)))))), ?_⟩
    obtain ⟨ms, em, hms⟩ := cut_ints ns none (some 63)
    refine ⟨_, rfl, _, rfl, a, _, rfl, hS, fun p hp => ?_⟩
    refine ⟨p, _, rfl, .inl (SqL.of upd_same), fun l hl2 => ?_⟩
    refine ⟨(by show 3 ≤ sizeLine; decide), fun pen hpen => ?_⟩
    have n1 : l ≠ pen := ne_of_none upd_same hpen
    have n2 : p ≠ l := ne_of_none upd_same hl2
    have n3 : p ≠ pen := ne_of_none (by rw [upd_ne n2]; exact upd_same) hpen
    refine k pen _ ?_ ?_ ⟨l, ms, 0, 0, upd_same, ?_, n1, by omega, by decide, by decide, by decide⟩
    · rw [upd_ne n1.symm, upd_ne n3.symm] at hpen
      exact hpen
    · intro b o e
      have e1 : (upd H p (.lst (cutV (ns.map V.int) none (some 63)))) b = some o := by rw [upd_ne (ne_of_none e hp)]; exact e
      have e2 : (upd (upd H p (.lst (cutV (ns.map V.int) none (some 63)))) l (.lst (cutV (ns.map V.int) none (some 63)))) b = some o := by rw [upd_ne (ne_of_none e1 hl2)]; exact e1
      rw [upd_ne (ne_of_none e2 hpen)]
      exact e2
    · rw [upd_ne n1, upd_same, em]
def spPick : Sp := fun vs H Q _ => ∃ (pen l : Addr) (xs : List V) (n : Nat), vs = [.ref pen, .ref l] ∧ PenAt H pen n ∧ n < 1000000 ∧ H l = some (.lst xs) ∧ l ≠ pen ∧ 0 < xs.length ∧ xs.length ≤ 1000 ∧
  ∀ (i : Nat) v H', xs[i]? = some v → PenAt H' pen (n + 1) → FrP pen H H' → Q v H'
theorem bits_small {i : Int} (h0 : 0 ≤ i) (h : i ≤ 1000000) : Bits i := by
  unfold Bits
  by_cases hi : i.natAbs = 0
  · rw [hi]; decide
  · have := (Nat.log2_lt (k := 20) hi).mpr (by omega)
    omega
theorem sc_pick : FnScope ["_law_pen_here", "_law_some"] ["_law_pen_here", "_law_some"] (defScope s_law_pick) := ⟨rfl, rfl, rfl, by decide +kernel, rfl, by decide +kernel, by decide +kernel⟩
theorem ok_pick {f fD : Addr} {fd fdD : FuncData} (F : FnP K "_law_pick" "_law_pick" s_law_pick [] f fd) (D : FnOk P w K mg base CX0 1 fD fdD ["_law_pen_here", "_law_many"] spDraw) (FD : FnP K "_law_draw" "_law_draw" s_law_draw [] fD fdD) (gD : mg "_law_draw" = some (.ref fD)) (ml : mg "len" = none) : FnOk P w K mg base CX0 2 f fd ["_law_pen_here", "_law_some"] spPick := by
  have bD : Binds K fdD ["_law_pen_here", "_law_many"] [] := FD.bindsN fun _ _ _ _ _ _ us hl => match us, hl with | [_, _], _ => rfl
  refine F.ok sc_pick (fun vs H Q E h => ?_) (fun cdv A outer s H vs Q E hr h => ?_)
  · obtain ⟨pen, l, xs, n, rfl, _⟩ := h
    rfl
  · obtain ⟨pen, l, xs, n, rfl, hp, hn, hl, hne, h0, h1, k⟩ := h
    refine ⟨_, PSs.nox (pss_one (ps_ret (pe_ix ix_list (pv 1) (pe_call D hr rfl gD FD.kp bD .nil pass0 (pa_cons (pv 0) (pa_cons (pe_callB call_len_seq (by rfl) ml (by decide +kernel) (pa_cons (pv 1) pa_nil)) pa_nil))) (fun _ _ => rfl)))), ?_⟩
    refine ⟨_, rfl, _, rfl, _, rfl, l, _, rfl, .inl (SqL.of hl), pen, _, n, rfl, hp, hn, by omega, bits_small (by omega) (by omega), fun d H' d0 d1 hp' fr => ?_⟩
    have hd : d.toNat < xs.length := by omega
    have e : xs[d.toNat]? = some xs[d.toNat] := List.getElem?_eq_getElem hd
    have q := atI_nat e
    rw [Int.toNat_of_nonneg d0] at q
    exact ⟨l, _, _, _, rfl, rfl, SqL.of (fr.1 _ _ hne hl), q, k _ _ _ e hp' fr⟩
end
end SP
set_option Elab.async false
set_option linter.all false
set_option maxRecDepth 100000
set_option maxHeartbeats 400000
namespace SP
open PySem PySem.Spec PyProof.Rows L2
/-! ### Form.__init__ -/
/-- numbers, one by one -/
inductive NumsAt (C : Addr) (H : Hp) : List V → List Rat → Prop
  | nil : NumsAt C H [] []
  | cons {v : V} {q : Rat} {vs : List V} {qs : List Rat} : NumAt C H v q → NumsAt C H vs qs → NumsAt C H (v :: vs) (q :: qs)
inductive AmsAt (C : Addr) (H : Hp) : List V → List Rat → Prop
  | nil : AmsAt C H [] []
  | cons {v : V} {q : Rat} {vs : List V} {qs : List Rat} : AmAt C H v q → AmsAt C H vs qs → AmsAt C H (v :: vs) (q :: qs)
theorem NumsAt.mono {C : Addr} {H H' : Hp} {vs : List V} {qs : List Rat} (h : NumsAt C H vs qs) (e : Same H H') : NumsAt C H' vs qs := by
  induction h with
  | nil => exact .nil
  | cons h _ ih => exact .cons (h.mono e) ih
theorem AmsAt.mono {C : Addr} {H H' : Hp} {vs : List V} {qs : List Rat} (h : AmsAt C H vs qs) (e : Same H H') : AmsAt C H' vs qs := by
  induction h with
  | nil => exact .nil
  | cons h _ ih => exact .cons (h.mono e) ih
theorem AmsAt.snoc {C : Addr} {H : Hp} {vs : List V} {qs : List Rat} {v : V} {q : Rat} (h : AmsAt C H vs qs) (hv : AmAt C H v q) : AmsAt C H (vs ++ [v]) (qs ++ [q]) := by
  induction h with
  | nil => exact .cons hv .nil
  | cons h _ ih => exact .cons h ih
theorem AmsAt.len {C : Addr} {H : Hp} {vs : List V} {qs : List Rat} (h : AmsAt C H vs qs) : vs.length = qs.length := by
  induction h with
  | nil => rfl
  | cons h _ ih => simp [ih]
theorem NumsAt.len {C : Addr} {H : Hp} {vs : List V} {qs : List Rat} (h : NumsAt C H vs qs) : vs.length = qs.length := by
  induction h with
  | nil => rfl
  | cons h _ ih => simp [ih]
theorem NumsAt.get {C : Addr} {H : Hp} {vs : List V} {qs : List Rat} (h : NumsAt C H vs qs) {i : Nat} {v : V} (e : vs[i]? = some v) : ∃ q, qs[i]? = some q ∧ NumAt C H v q := by
  induction h generalizing i with
  | nil => simp at e
  | cons h _ ih =>
    cases i with
    | zero => simp at e; subst e; exact ⟨_, rfl, h⟩
    | succ i => obtain ⟨q, h1, h2⟩ := ih (i := i) (by simpa using e); exact ⟨q, by simpa using h1, h2⟩
theorem AmsAt.imp {C : Addr} {H H' : Hp} {vs : List V} {qs : List Rat} (h : AmsAt C H vs qs) (k : ∀ v q, AmAt C H v q → AmAt C H' v q) : AmsAt C H' vs qs := by
  induction h with
  | nil => exact .nil
  | cons h _ ih => exact .cons (k _ _ h) ih
theorem NumsAt.imp {C : Addr} {H H' : Hp} {vs : List V} {qs : List Rat} (h : NumsAt C H vs qs) (k : ∀ v q, NumAt C H v q → NumAt C H' v q) : NumsAt C H' vs qs := by
  induction h with
  | nil => exact .nil
  | cons h _ ih => exact .cons (k _ _ h) ih
theorem AmAt.lst {C : Addr} {H : Hp} {v : V} {q : Rat} {D : Addr} {xs zs : List V} (h : AmAt C H v q) (hD : H D = some (.lst xs)) : AmAt C (upd H D (.lst zs)) v q := by
  obtain ⟨a, dx, rfl, h⟩ := h
  exact ⟨a, dx, rfl, by rw [upd_ne (ne_of h hD (by intro z; cases z))]; exact h⟩
theorem AmsAt.lst {C : Addr} {H : Hp} {vs : List V} {qs : List Rat} {D : Addr} {xs zs : List V} (h : AmsAt C H vs qs) (hD : H D = some (.lst xs)) : AmsAt C (upd H D (.lst zs)) vs qs := by
  induction h with
  | nil => exact .nil
  | cons h _ ih => exact .cons (h.lst hD) ih
theorem same_new {H H' : Hp} {D : Addr} {o : HO} (e : Same H H') (hD : H D = none) : Same H (upd H' D o) := fun b u h => by
  rw [upd_ne (ne_of_none h hD)]
  exact e b u h
theorem take_snoc {α : Type} {l : List α} {i : Nat} {a : α} (h : l[i]? = some a) : l.take i ++ [a] = l.take (i + 1) := by
  obtain ⟨hi, rfl⟩ := List.getElem?_eq_some_iff.mp h
  exact List.take_append_getElem hi
/-- what of the text a Form asks -/
structure FoC (K : PySem.W.Frag) (mg : Str → Option Value) (CF : Addr) : Prop where
  cl : Cls K CF
  nC : NoAttr K CF "constant"
  nF : NoAttr K CF "factors"
  mgF : mg "Form" = some (.ref CF)
def foF (c f : Addr) : List (Str × V) := [("constant", .ref c), ("factors", .ref f)]
theorem cf_ne : ¬ (("constant" : Str) = "factors") := by decide +kernel
theorem fo_put (c l : Addr) : putF "factors" (.ref l) [(("constant" : Str), V.ref c)] = foF c l := by
  show (if ("constant" : Str) = "factors" then _ else (("constant" : Str), V.ref c) :: putF "factors" (V.ref l) []) = _
  rw [if_neg cf_ne]
  rfl
section
variable {P : Program} {w : World} {K : PySem.W.Frag} {mg : Str → Option Value} {base : Heap}
/-- a Form at v -/
def FoAt (C CF : Addr) (H : Hp) (v : V) (q : Rat) (qs : List Rat) : Prop := ∃ a dx c f xs, v = .ref a ∧ H a = some (.ins CF dx (foF c f)) ∧ AmAt C H (.ref c) q ∧ H f = some (.tup xs) ∧ AmsAt C H xs qs
def spFoI (C CF : Addr) : Sp := fun vs H Q _ => ∃ (x dx t : Addr) (v : V) (xs : List V) (q : Rat) (qs : List Rat), vs = [.ref x, v, .ref t] ∧ H x = some (.ins CF dx []) ∧ H t = some (.tup xs) ∧ NumAt C H v q ∧ NumsAt C H xs qs ∧ xs.length ≤ 1000 ∧
  ∀ c f ys H', (∀ b o, b ≠ x → H b = some o → H' b = some o) → H' x = some (.ins CF dx (foF c f)) → AmAt C H' (.ref c) q → H' f = some (.tup ys) → AmsAt C H' ys qs → Q .non H'
theorem sc_fi : FnScope ["self", "constant", "factors", "factor"] ["self", "constant", "factors"] (defScope s_Form_init) := ⟨rfl, rfl, rfl, by decide +kernel, rfl, by decide +kernel, by decide +kernel⟩
theorem ok_fi {f C CF p g : Addr} {fd : FuncData} (F : FnP K "__init__" "Form.__init__" s_Form_init [] f fd) (T : AmC K mg C) (TF : FoC K mg CF) (O : AmOf P w K mg base C p g) (mt : mg "tuple" = none) : 
    FnR P w K mg base CX0 5 f (fun vs H Q E => ∃ ws rest, vs = ws ++ rest ∧ ws.length = 2 ∧ rest.length ≤ sizeLine ∧ ∀ p, H p = none → spFoI C CF (ws ++ [V.ref p]) (upd H p (.tup rest)) Q E) := by
  obtain ⟨oc, od, dV, kV, doc, pm, an, cdv, ct, osl, rfl, lk, hcd, dv, kw⟩ := F.ex
  rcases dv with ⟨_, rfl⟩ | ⟨h, _⟩
  rotate_left
  · exact absurd rfl h
  refine StX.fn_star (ps := ["self", "constant"]) (pv := "factors") (N := ["self", "constant", "factors", "factor"]) lk hcd sc_fi StX.cxUp_none (StX.bind_star2 (B := fun us => bindArgs (PySem.W.fnOf "__init__" "Form.__init__" (defArgs s_Form_init) (defBody s_Form_init) (defScope s_Form_init) .none kV doc pm an cdv ct) ⟨us, []⟩) (fun a b => rfl) (fun a b r rs => rfl)) (fun A outer s H vs Q E hr h => ?_)
  obtain ⟨x, dx, t, v, xs, q, qs, rfl, hx, ht, hv, hxs, hlen, k⟩ := h
  refine ⟨_, PSs.nox (pss_cons (ps_fld (pv 0) (pe_smeth (pe_glob (v := .ref C) (by rfl) T.mgC rfl) O.rd O.sm O.ok hr pass0 (pa_cons (pv 1) pa_nil)) rfl)
    (pss_one (ps_fld (pv 0) (pe_callTy call_tuple_of (by rfl) mt (by decide +kernel) (pa_cons (pe_lc (own := [("factor", 3)]) (g := gName 3) (tt := tYes) rfl sc_fi.nd (pi_tup (pv 2)) (blkOk_by (N := ["self", "constant", "factors", "factor"]) (sc := defScope s_Form_init) (by decide +kernel)) (fun _ _ _ _ _ => pg_name (i := 3) sc_fi.nd rfl (Or.inl rfl)) (fun _ _ _ _ _ => pts_nil)
      (fun _ _ _ _ _ => pe_smeth (pe_glob (v := .ref C) (by rfl) T.mgC rfl) O.rd O.sm O.ok hr pass0 (pa_cons (pv 3) pa_nil))) pa_nil)) rfl))), ?_⟩
  refine ⟨rfl, _, rfl, v, q, rfl, hv, fun r H1 e hr2 => ?_⟩
  obtain ⟨c, dc, rfl, hc⟩ := id hr2
  refine ⟨_, rfl, x, CF, dx, [], rfl, e _ _ hx, TF.cl, TF.nC, (by show 0 < 1000; decide), ?_⟩
  have fx : putF "constant" (V.ref c) [] = [(("constant" : Str), V.ref c)] := rfl
  rw [fx]
  have ntx : t ≠ x := ne_of ht hx (by intro z; cases z)
  have ncx : c ≠ x := ne_of hc (e _ _ hx) (by intro z; injection z with _ _ z; cases z)
  have s2 : ∀ b o, b ≠ x → H b = some o → (upd H1 x (.ins CF dx [("constant", V.ref c)])) b = some o := fun b o hb ho => by rw [upd_ne hb]; exact e _ _ ho
  have hc2 : (upd H1 x (.ins CF dx [("constant", V.ref c)])) c = some (.ins C dc (amF q)) := by rw [upd_ne ncx]; exact hc
  have hx2 : (upd H1 x (.ins CF dx [("constant", V.ref c)])) x = some (.ins CF dx [("constant", V.ref c)]) := upd_same
  have num2 : NumsAt C (upd H1 x (.ins CF dx [("constant", V.ref c)])) xs qs := by
    exact hxs.imp fun v q h => h.elim .inl fun ⟨a, da, ea, ha⟩ => .inr ⟨a, da, ea, s2 _ _ (ne_of ha hx (by intro z; injection z with _ _ z; cases z)) ha⟩
  generalize hH2 : upd H1 x (.ins CF dx [("constant", V.ref c)]) = H2 at s2 hc2 hx2 num2 ⊢
  refine ⟨_, rfl, t, rfl, ⟨_, SqT.of (s2 _ _ ntx ht)⟩, fun D hD => ?_⟩
  refine lc_tup (K := K) (a := t) (xs := xs) (fun i H3 => ∃ acc, H3 D = some (.lst acc) ∧ Same H2 H3 ∧ AmsAt C H3 acc (qs.take i) ∧ acc.length = i) ⟨[], upd_same, same_new (Same.refl _) hD, .nil, rfl⟩ (fun i H3 _ ⟨_, _, s3, _⟩ => SqT.of (s3 _ _ (s2 _ _ ntx ht))) ?_ ?_
  · rintro i y H3 hy ⟨acc, hacc, s3, am, la⟩
    obtain ⟨q1, hq1, hn1⟩ := num2.get hy
    have hi : i < xs.length := (List.getElem?_eq_some_iff.mp hy).1
    refine ⟨rfl, rfl, _, rfl, y, q1, rfl, hn1.mono s3, fun r H4 e4 hr4 => ?_⟩
    have hacc4 := e4 _ _ hacc
    refine ⟨acc, hacc4, small1000 (by omega), acc ++ [r], upd_same, same_new (s3.trans e4) hD, ?_, by simp [la]⟩
    rw [← take_snoc hq1]
    exact ((am.mono e4).snoc hr4).lst hacc4
  · rintro H3 ⟨acc, hacc, s3, am, la⟩
    rw [← num2.len.symm, List.take_length] at am
    refine ⟨D, _, rfl, .inl ⟨SqL.of hacc, fun l hl => ?_⟩⟩
    have s4 : Same H3 (upd H3 l (.tup acc)) := same_new (Same.refl _) hl
    have s5 := s3.trans s4
    refine ⟨_, rfl, x, CF, dx, _, rfl, s5 _ _ hx2, TF.cl, TF.nF, (by show 1 < 1000; decide), ?_⟩
    have nlx : l ≠ x := ne_of upd_same (s5 _ _ hx2) (by intro z; cases z)
    refine k c l acc _ (fun b o hb ho => by rw [upd_ne hb]; exact s5 _ _ (s2 _ _ hb ho)) ?_ ⟨c, dc, rfl, ?_⟩ ?_ ?_
    · rw [upd_same]
      refine congrArg (fun l => some (HO.ins CF dx l)) ?_
      exact fo_put c l
    · rw [upd_ne ncx]
      exact s5 _ _ hc2
    · rw [upd_ne nlx]
      exact upd_same
    · exact (am.mono s4).imp fun v q ⟨a, da, ea, ha⟩ => ⟨a, da, ea, by rw [upd_ne (ne_of ha (s5 _ _ hx2) (by intro z; injection z with _ _ z; cases z))]; exact ha⟩
end
end SP
set_option Elab.async false
set_option linter.all false
set_option maxRecDepth 100000
set_option maxHeartbeats 400000
namespace SP
open PySem PySem.SeqAt
open AutoSeq1 (wpAny_loadPart')
open MeetsSeq MeetsSeq2 MeetsSeq3 SeqRoads2
section
variable {prog : Program} {w : World} {A : Around} {R : Result → Shared → Prop}
theorem tuple_eqB (l b : Addr) (items items2 : Array Value) (n n2 : Nat) (dd dd2 : Option Addr) (sl sl2 : Array (Option Value)) (I : Nat → Shared → Prop) (J : Shared → Prop)
    (turn : ∀ i (h1 : i < items.size) (h2 : i < items2.size) s, I i s → wpAny (model prog w) A.in1 (eqBool items[i] items2[i]) (fun r s' => if r = true then I (i + 1) s' else J s') (fun e s' => R (.error e) s') s)
    (fin : ∀ s, I (min items.size items2.size) s → R (.ok (.ret (.bool (items.size == items2.size)))) s) (finJ : ∀ s, J s → R (.ok (.ret (.bool false))) s)
    {s : Shared} (hl1 : s.heap.get? l = some { cls := .type "tuple", dict := dd, data := .seq items n, slots := sl }) (hb1 : s.heap.get? b = some { cls := .type "tuple", dict := dd2, data := .seq items2 n2, slots := sl2 }) (h : I 0 s) :
    wpAny (model prog w) A.in1 (Builtin.«tuple.__eq__» ⟨[.ref l, .ref b], []⟩) (GQ.FinOf prog w A R) (fun e s' => R (.error e) s') s := by
  have f2 := AutoSeq1.sub_tuple_tuple
  have hZ : (items.toList.zip items2.toList).length = min items.size items2.size := by simp
  have h0 := h
  obtain ⟨hp, g, d, tk, os⟩ := s
  wp_walk using wpAny_loadPart' hl1, wpAny_loadPart' hb1, wpAny_forIn_list _ (fun rest b s' => b.1 = none ∧ ∃ i, rest = (items.toList.zip items2.toList).drop i ∧ i ≤ min items.size items2.size ∧ I i s') _
  case turn =>
    rintro ⟨y, x⟩ rest b s' ⟨hb', i, hz, hi, hI⟩
    have hlt : i < (items.toList.zip items2.toList).length := by
      rcases Nat.lt_or_ge i (items.toList.zip items2.toList).length with h' | h'
      · exact h'
      · rw [List.drop_of_length_le h'] at hz; cases hz
    have h1 : i < items.size := by rw [hZ] at hlt; omega
    have h2 : i < items2.size := by rw [hZ] at hlt; omega
    rw [List.drop_eq_getElem_cons hlt] at hz
    injection hz with hyx hrest
    have hy : y = items[i] := by have := congrArg Prod.fst hyx; simpa using this
    have hx : x = items2[i] := by have := congrArg Prod.snd hyx; simpa using this
    subst hy hx
    refine wpAny_bind (wpAny_mono (turn i h1 h2 s' hI) (fun r s2 q2 => ?_) fun _ _ x => x)
    cases r with
    | true =>
      have q2 : I (i + 1) s2 := q2
      wp_walk
      exact ⟨rfl, i + 1, hrest, by omega, q2⟩
    | false =>
      have q2 : J s2 := q2
      have q3 := finJ s2 q2
      wp_walk
      exact q3
  case fin =>
    rintro ⟨b1, b2⟩ s' ⟨hb', i, hz, hi, hI⟩
    simp only at hb'
    subst hb'
    have hge : min items.size items2.size ≤ i := by
      rcases Nat.lt_or_ge i (items.toList.zip items2.toList).length with h' | h'
      · rw [List.drop_eq_getElem_cons h'] at hz; cases hz
      · exact hZ ▸ h'
    have hi' : i = min items.size items2.size := by omega
    have hR := fin s' (hi' ▸ hI)
    wp_walk
    simpa [Builtin.Tuple.tupleCompareSizes] using hR
  case h =>
    exact ⟨rfl, 0, rfl, Nat.zero_le _, h0⟩
end
section
variable {prog : Program} {w : World} {A : Around} {E : Value → Shared → Prop} {s : Shared}
theorem rc_tupB {l b : Addr} {items items2 : Array Value} {Q : Value → Shared → Prop} (hu : A.units < cLine) (I : Nat → Shared → Prop) (J : Shared → Prop)
    (hl : s.heap.IsTuple l items) (hb : s.heap.IsTuple b items2)
    (turn : ∀ i (h1 : i < items.size) (h2 : i < items2.size) s, I i s → wpAny (model prog w) A.in1 (eqBool items[i] items2[i]) (fun r s' => if r = true then I (i + 1) s' else J s') E s)
    (fin : ∀ s, I (min items.size items2.size) s → Q (.bool (items.size == items2.size)) s) (finJ : ∀ s, J s → Q (.bool false) s) (h : I 0 s) : wpAny (model prog w) A (richCompare .Eq (.ref l) (.ref b)) Q E s := by
  obtain ⟨⟨cls, dd, data, sl⟩, ho, hc, n, hd⟩ := id hl
  obtain ⟨⟨cls2, dd2, data2, sl2⟩, ho2, hc2, n2, hd2⟩ := id hb
  simp only at hc hd hc2 hd2
  subst hc hd hc2 hd2
  refine wpAny_richCompare_same_room (op := .Eq) ⟨_, ho, rfl⟩ ⟨_, ho2, rfl⟩ F.slot_tuple_eq (GQ.call_here F.slot_tuple_eq ⟨_, ho, rfl⟩ F.entry_tuple_eq (F.args_tuple_eq_2 _ _) ?_) hu
  exact tuple_eqB (R := wants (fun v s' => v ≠ .notImplemented ∧ Q v s') E) l b items items2 n n2 dd dd2 sl sl2 I J turn (fun s' q => ⟨(fun x => nomatch x), fin s' q⟩) (fun s' q => ⟨(fun x => nomatch x), finJ s' q⟩) ho ho2 h
end
end SP
set_option Elab.async false
set_option linter.all false
set_option maxRecDepth 100000
set_option maxHeartbeats 400000
namespace SP
open PySem PySem.Spec PyProof.Rows L2
/-- == of two things that leaves the heap as it is, with either answer -/
abbrev EqD := V → V → Hp → Bool → Prop
def EqV (X : Cx) (n : Nat) (D : EqD) : Prop :=
  ∀ (A : Around) (pins : List (Addr × Obj)) (s : Shared) (σ : L2.St) (H : Hp) (x y : V) (u v : Value) (r : Bool), Sub X n A → Inv X pins σ H s → RelV x u → RelV y v → D x y H r →
    wpAny (model X.prog X.w) A (eqBool u v) (fun r' s' => r' = r ∧ Inv X pins σ H s') X.xe s
/-- item by item: whether all are equal -/
inductive PrsB (D : EqD) (H : Hp) : List V → List V → Bool → Prop
  | nil : PrsB D H [] [] true
  | short {y : V} {ys : List V} : PrsB D H [] (y :: ys) false
  | long {x : V} {xs : List V} : PrsB D H (x :: xs) [] false
  | same {x y : V} {xs ys : List V} {r : Bool} : D x y H true → PrsB D H xs ys r → PrsB D H (x :: xs) (y :: ys) r
  | diff {x y : V} {xs ys : List V} : D x y H false → PrsB D H (x :: xs) (y :: ys) false
section
variable {X : Cx} {n : Nat} {D : EqD}
theorem env_sub {A : Around} {pins : List (Addr × Obj)} {s : Shared} {σ : L2.St} {H : Hp} (sb : Sub X n A) (I : Inv X pins σ H s) : Env0 X.prog X.w X.K X.mg X.base A X.stack s H := by
  have e := I.env0
  exact ⟨by rw [sb.fr]; exact e.frames, e.mod, e.bs, e.bsz, e.funs, e.frf, e.hok, e.bare⟩
def DAm (C : Addr) : EqD := fun x y H r => ∃ q q2, AmAt C H x q ∧ AmAt C H y q2 ∧ r = decide (q2 = q)
theorem amF_inj {q q2 : Rat} (h : amF q = amF q2) : q = q2 := by
  unfold amF at h
  injection h with h1 h2
  injection h1 with _ h1
  injection h1 with h1
  injection h2 with h2 _
  injection h2 with _ h2
  injection h2 with h2
  exact Rat.ext h1 (by omega)
theorem eqV_am {C g : Addr} {E : XK} (F : FnR X.prog X.w X.K X.mg X.base CX0 n g (spEqA X.K C)) (T : AmI X.K C) (cl : Cls X.K C)
    (hs : PySem.W.findIn X.K (.ref C) "__eq__" = some (some (.ref g))) (hf : PySem.W.isFn X.K (.ref g) = true) : EqV X n (DAm C) := by
  intro A pins s σ H x y u v r sb I rx ry d
  obtain ⟨q, q2, ⟨a, dx, rfl, ha⟩, ⟨b, dy, rfl, hb⟩, rfl⟩ := d
  cases rx
  cases ry
  by_cases hab : a = b
  · subst hab
    rw [ha] at hb
    have e : q = q2 := amF_inj (by injection hb with hb; injection hb)
    refine SeqAt.EqAt.same (A := A) (s := s) (.ref a) X.prog X.w X.xe _ ⟨?_, I⟩
    rw [decide_eq_true e.symm]
  · refine GQ.eqBool_refG hab ?_
    obtain ⟨od, J⟩ := ins_inst I ha
    obtain ⟨od', J'⟩ := ins_inst I hb
    obtain ⟨m, hF⟩ := I.fr
    refine PySem.W.cmp_K (op := .Eq) (tb := .ref C) sb.room.units0 hF I.ok.mod.kin J J'.type (by simp [PySem.W.notFirst]) hs hf ?_
    have hsp : spEqA X.K C [.ref a, .ref b] H (fun v H' => v = .bl (decide (q2 = q)) ∧ H' = H) E0 := ⟨_, _, q, some q2, rfl, ⟨a, dx, rfl, ha⟩, .inr ⟨b, dy, rfl, hb⟩, by simp, rfl⟩
    refine wpAny_mono (wpAny_call (SlX.run_at (us := [.ref a, .ref b]) (ws := [.ref a, .ref b]) F sb.room (env_sub sb I) pass0 I (.cons rfl (.cons rfl .nil)) hsp)) (fun w s' z => ?_) fun _ _ x => x
    obtain ⟨z', H', I', rz, rfl, rfl⟩ := z
    cases (show w = Value.bool _ from rz)
    exact ⟨_, rfl, rfl, I'⟩
def rEqT (K : PySem.W.Frag) (D : EqD) : R2 := fun x y H Q => ∃ a b xs ys r, x = .ref a ∧ y = .ref b ∧ SqT K H a xs ∧ SqT K H b ys ∧ PrsB D H xs ys r ∧ Q (.bl r) H
theorem vget {xs : List V} {us : List Value} (r : Vals xs us) {i : Nat} (h : i < us.toArray.size) : ∃ x, xs[i]? = some x ∧ RelV x us.toArray[i] := by
  have hi : i < us.length := by simpa using h
  have hx : i < xs.length := by rw [r.length]; exact hi
  obtain ⟨u, hu, ru⟩ := r.get (List.getElem?_eq_getElem hx)
  rw [List.getElem?_eq_getElem hi] at hu
  injection hu with hu
  exact ⟨_, List.getElem?_eq_getElem hx, by rw [List.getElem_toArray, hu]; exact ru⟩
theorem op_eqT (h : EqV X n D) (hr : Room (n + 1) X.A) : OpR X (compareOp .Eq) (rEqT X.K D) := by
  intro pins s σ H x y v u Q I rx ry hq
  obtain ⟨a, b, xs, ys, r, rfl, rfl, ha, hb, p, q⟩ := hq
  cases rx
  cases ry
  obtain ⟨its, r1, e1, z1⟩ := I.tuple ha
  obtain ⟨its2, r2, e2, z2⟩ := I.tuple hb
  show wpAny (model X.prog X.w) X.A (richCompare .Eq (.ref a) (.ref b)) (EP X pins σ Q) X.xe s
  refine rc_tupB hr.units0 (fun i s' => Inv X pins σ H s' ∧ PrsB D H (xs.drop i) (ys.drop i) r) (fun s' => Inv X pins σ H s' ∧ r = false) e1 e2 (fun i h1 h2 s' ⟨I', p'⟩ => ?_) (fun s' ⟨I', p'⟩ => ?_) (fun s' ⟨I', e⟩ => ?_) ⟨I, p⟩
  · obtain ⟨x, hx, rx⟩ := vget r1 h1
    obtain ⟨y, hy, ry⟩ := vget r2 h2
    obtain ⟨l1, e1'⟩ := List.getElem?_eq_some_iff.mp hx
    obtain ⟨l2, e2'⟩ := List.getElem?_eq_some_iff.mp hy
    rw [List.drop_eq_getElem_cons l1, List.drop_eq_getElem_cons l2, e1', e2'] at p'
    have sb : Sub X n X.A.in1 := ⟨hr.in1, rfl⟩
    cases p' with
    | same d p2 =>
      refine wpAny_mono (h X.A.in1 pins s' σ H x y _ _ true sb I' rx ry d) (fun r' s2 z => ?_) fun _ _ x => x
      obtain ⟨rfl, I2⟩ := z
      exact ⟨I2, p2⟩
    | diff d =>
      refine wpAny_mono (h X.A.in1 pins s' σ H x y _ _ false sb I' rx ry d) (fun r' s2 z => ?_) fun _ _ x => x
      obtain ⟨rfl, I2⟩ := z
      exact ⟨I2, rfl⟩
  · have hl1 : its.toArray.size = xs.length := by rw [List.size_toArray, ← r1.length]
    have hl2 : its2.toArray.size = ys.length := by rw [List.size_toArray, ← r2.length]
    rw [hl1, hl2] at p' ⊢
    refine ⟨.bl (xs.length == ys.length), H, I', rfl, ?_⟩
    have : (xs.length == ys.length) = r := by
      rcases Nat.lt_trichotomy xs.length ys.length with hlt | heq | hgt
      · rw [Nat.min_eq_left (by omega), List.drop_length] at p'
        rw [List.drop_eq_getElem_cons hlt] at p'
        cases p'
        simp; omega
      · rw [Nat.min_eq_left (by omega), List.drop_length, heq, List.drop_length] at p'
        cases p'
        simp [heq]
      · rw [Nat.min_eq_right (by omega), List.drop_length] at p'
        rw [List.drop_eq_getElem_cons hgt] at p'
        cases p'
        simp; omega
    rw [this]
    exact q
  · subst e
    exact ⟨.bl false, H, I', rfl, q⟩
end
end SP
set_option Elab.async false
set_option linter.all false
set_option maxRecDepth 100000
set_option maxHeartbeats 1000000
namespace SP
open PySem PySem.Spec PyProof.Rows L2
section
open PySem.SeqAt
open AutoSeq1 (wpAny_loadPart')
open MeetsSeq MeetsSeq2 MeetsSeq3 SeqRoads2
open PySem.Builtin
theorem meets_enumerate_newT (l : Addr) (items : Array Value) (n : Nat) (dct : Option Addr) (sl : Array (Option Value)) :
    Meets (Builtin.«enumerate.__new__» ⟨[.type "enumerate", .ref l], []⟩) (fun _ R s => s.heap.get? l = some { cls := .type "tuple", dict := dct, data := .seq items n, slots := sl } ∧
      R (.ok (.ret (.ref (s.heap.push { cls := .type "tuple_iterator", data := .fields #[.ref l, .int 0 0] }).objs.size)))
        { s with heap := (s.heap.push { cls := .type "tuple_iterator", data := .fields #[.ref l, .int 0 0] }).push { cls := .type "enumerate", data := .fields #[.none, .bool false, .ref s.heap.objs.size, rawInt 0, .none, .none] } }) :=
  .of_wp fun prog w A R s h => by
    obtain ⟨hp, g, d, tk, os⟩ := s; obtain ⟨hl, h⟩ := h
    have hsub := sub_enumerate
    have hL : Heap.IsTuple (Shared.heap ⟨hp, g, d, tk, os⟩) l items := ⟨_, hl, rfl, n, rfl⟩
    wp_walk using wpAny_loadPart' hl
    refine wpAny_stack_any fun st => wpAny_pure ?_
    split
    · rename_i c _ _ _ _ _
      cases (c == Value.type "enumerate")
      · wp_walk using wpAny_loadPart' hl, wpAny_pyIter_tuple hL
        exact ⟨_, rfl, h⟩
      · wp_walk using wpAny_loadPart' hl, wpAny_pyIter_tuple hL
        exact ⟨_, rfl, h⟩
    · wp_walk using wpAny_loadPart' hl, wpAny_pyIter_tuple hL
      exact ⟨_, rfl, h⟩
variable {prog : Program} {w : World} {A : Around} {E : Value → Shared → Prop} {s : Shared}
theorem call_enumerate_tuple {l : Addr} {items : Array Value} {Q : Value → Shared → Prop} (hL : s.heap.IsTuple l items)
    (h : ∀ h', IsEnum h' (s.heap.objs.size + 1) s.heap.objs.size 0 .none → h'.IsTupleIter s.heap.objs.size l 0 → h'.objs.size = s.heap.objs.size + 2 →
      (∀ b o, s.heap.get? b = some o → h'.get? b = some o) → Q (.ref (s.heap.objs.size + 1)) { s with heap := h' }) :
    wpAny (model prog w) A (call (.type "enumerate") [.ref l]) Q E s := by
  obtain ⟨⟨c, dct, dt, sl⟩, hl, hc, n, hd⟩ := hL
  replace hc : c = .type "tuple" := hc
  replace hd : dt = .seq items n := hd
  subst hc hd
  refine callType_new F.called_enumerate (by decide) (F.typeCall_enumerate_1 _) (F.newCall_enumerate_1 _) (fun obj => F.args_object_init_2 obj _) F.entry_enumerate_new
    (meets_enumerate_newT l items n dct sl) ⟨hl, ?_⟩
  have hz : (s.heap.push { cls := .type "tuple_iterator", data := .fields #[.ref l, .int 0 0] }).objs.size = s.heap.objs.size + 1 := Heap.size_push ..
  show _ ∧ _
  rw [hz]
  have he : IsEnum ((s.heap.push { cls := .type "tuple_iterator", data := .fields #[.ref l, .int 0 0] }).push
      { cls := .type "enumerate", data := .fields #[.none, .bool false, .ref s.heap.objs.size, rawInt 0, .none, .none] }) (s.heap.objs.size + 1) s.heap.objs.size 0 .none := by
    have := Heap.get?_push_size (s.heap.push { cls := .type "tuple_iterator", data := .fields #[.ref l, .int 0 0] })
      (o := { cls := .type "enumerate", data := .fields #[.none, .bool false, .ref s.heap.objs.size, rawInt 0, .none, .none] }) rfl
    rw [hz] at this; exact this
  refine ⟨⟨_, he, rfl⟩, h _ he ⟨_, Heap.get?_push_of_some _ (Heap.get?_push_size _ rfl), rfl, rfl⟩ (by rw [Heap.size_push, hz]) fun b o x => Heap.get?_push_of_some _ (Heap.get?_push_of_some _ x)⟩
end
/-- the tuple at a, its items in new pairs with their indexes -/
def IteT (K : PySem.W.Frag) (a : Addr) : It :=
  ⟨fun i H => ∃ (xs : List V) (x : V), SqT K H a xs ∧ xs[i]? = some x, fun i H v H' => ∃ T x, v = .ref T ∧ H T = none ∧ H' = upd H T (.tup [.int (i : Nat), x]) ∧ ∀ xs, SqT K H a xs → xs[i]? = some x, fun i H => ∃ xs : List V, SqT K H a xs ∧ xs.length ≤ i⟩
theorem tup_ne_iter {h : Heap} {a it : Addr} {items : Array Value} {i : Nat} (p : h.IsTuple a items) (q : h.IsTupleIter it a i) : a ≠ it := fun z => by
  obtain ⟨o, ho, hc, _⟩ := p
  obtain ⟨o', ho', hc', _⟩ := q
  rw [z, ho'] at ho
  cases ho
  rw [hc'] at hc
  exact absurd hc (by decide)
theorem turn_enumT {P : Program} {w : World} {K : PySem.W.Frag} {elts : List Expr} {kk : Nat} {tpos : Pos} (a e it : Addr) :
    Turn P w K (.Tuple elts kk tpos) (IteT K a) [e, it] e (fun i h => (∃ old, IsEnum h e it ((i : Nat) : Int) old) ∧ h.IsTupleIter it a i ∧ e ≠ it ∧ e ≠ a) where
  mem := by simp
  obj := fun i h st b hb => by
    obtain ⟨⟨old, he⟩, ⟨o, ho, hc, hd⟩, _⟩ := st
    have e' : b = e ∨ b = it := by simpa using hb
    rcases e' with z | z
    · rw [z]; exact ⟨_, he, fun v q => nomatch q⟩
    · rw [z]; exact ⟨o, ho, fun v q => by rw [hd] at q; cases q⟩
  keep := fun i h h' st k => let ⟨⟨old, he⟩, hi, hne⟩ := st; ⟨⟨old, k e (by simp) _ he⟩, hi.at fun o q => k it (by simp) o q, hne⟩
  item := by
    intro X hP hw hK hc i pins s σ H E I hf st hg
    subst hP hw hK
    obtain ⟨⟨old, he⟩, hit, hne, hea⟩ := st
    obtain ⟨xs, x, hq, hx⟩ := hg
    obtain ⟨its, rv, p, hz⟩ := I.tuple hq
    have p : s.heap.IsTuple a its.toArray := p
    obtain ⟨u, hu, ru⟩ := rv.get hx
    have hel : e < s.heap.objs.size := Heap.lt_size he
    have hil : it < s.heap.objs.size := by obtain ⟨_, q, _⟩ := hit; exact Heap.lt_size q
    have hai := tup_ne_iter p hit
    have hlt : i < its.toArray.size := by
      have := (List.getElem?_eq_some_iff.mp hu).1
      simpa using this
    have hh : X.A.in1.handled = none := I.ok.hd hc
    refine wpAny_pyNext_enum_itemC (Draws.tuple hh it a hai its.toArray) he ⟨hit, p⟩ hlt hne (by simp [hne, hea]) fun y h' tk hy ho st' hT hsz hk => ?_
    have ey : y = u := by
      have h1 : its.toArray[i]? = some u := by simpa using hu
      rw [h1] at hy
      injection hy with hy
      exact hy.symm
    subst ey
    refine ⟨_, rfl, wpAny_letOwnedTupleGo_enum (s := { s with heap := h', toks := tk + 1 }) ho fun h'' he' sb => ?_⟩
    have hT2 : h''.get? s.heap.objs.size = some { cls := .type "tuple", data := .seq #[.int i tk, y] } := (sb.2 _ (Nat.ne_of_gt hel)).trans hT
    have new : ObjOk X.prog X.w (upd H s.heap.objs.size (.tup [.int (i : Nat), x])) h'' s.heap.objs.size (.tup [.int (i : Nat), x]) :=
      ⟨by show 2 ≤ sizeLine; decide, [.int i tk, y], .cons ⟨_, rfl⟩ (.cons ru .nil), ⟨_, hT2, rfl, _, rfl⟩⟩
    have I1 : Inv X pins σ (upd H s.heap.objs.size (.tup [.int (i : Nat), x])) { s with heap := h'', toks := tk + 1 } :=
      I.turnedNew (ch := [e, it]) (fun b ob hb q => (sb.2 b (fun z => hb (by simp [z]))).trans (hk b ob (fun z => hb (by simp [z])) (fun z => hb (by simp [z])) q)) hf (Nat.le_refl _) new
    refine ⟨.ref s.heap.objs.size, _, I1, rfl, ⟨_, x, rfl, I.hok.fresh (Nat.le_refl _), rfl, fun ys hy => by rw [I.tuple_inj hy hq]; exact hx⟩, ⟨⟨y, ?_⟩, st'.1.at fun o q => (sb.2 it (Ne.symm hne)).trans q, hne, hea⟩, fun b hb => ?_⟩
    · have e1 : ((i + 1 : Nat) : Int) = (i : Int) + 1 := by omega
      rw [e1]; exact he'
    · have hb' : b < s.heap.objs.size := by
        have e' : b = e ∨ b = it := by simpa using hb
        rcases e' with z | z
        · rw [z]; exact hel
        · rw [z]; exact hil
      rw [upd_ne (Nat.ne_of_lt hb')]
      exact (hf b hb).1
  done := by
    intro X hP hw hK hc i pins s σ H E I hf st hg
    subst hP hw hK
    obtain ⟨⟨old, he⟩, hit, hne, hea⟩ := st
    obtain ⟨xs, hq, hx⟩ := hg
    obtain ⟨its, rv, p, hz⟩ := I.tuple hq
    have p : s.heap.IsTuple a its.toArray := p
    obtain ⟨f0, f1, f2, f3, f4, f5⟩ := hf it (by simp)
    have hl := rv.length
    have hai := tup_ne_iter p hit
    have hh : X.A.in1.handled = none := I.ok.hd hc
    have D : Draws X.prog X.w X.A.in1 it [it, a] i (fun _ _ => True) (fun j h => j = i ∧ h.IsTupleIter it a i ∧ h.IsTuple a its.toArray) :=
      { live := fun _ _ st => let ⟨o, ho, _⟩ := st.2.1; ⟨o, ho⟩
        frame := fun _ _ _ st hk => ⟨st.1, st.2.1.at fun o e => hk it (by simp) o e, st.2.2.at fun o e => hk a (by simp) o e⟩
        item := fun j s Q E hj st hQ => absurd st.1 (Nat.ne_of_lt hj)
        done := fun s Q E st hE => wpAny_nextOf_tuple_end hh st.2.1 st.2.2 (by simp; omega) hE }
    exact wpAny_pyNext_enum_endD D he ⟨rfl, hit, p⟩ fun h' eb => ⟨rfl, I.turned (t' := s.toks) (fun b o hb q => eb b o hb q) f0 f1 f3 f4 f5⟩
  self := fun A i s Q E st h => let ⟨⟨_, he⟩, _⟩ := st; wpAny_pyIter_enum he h
def iEnumT (K : PySem.W.Frag) (ta : TA) : TI := fun σ H R => ta σ H fun vs H1 => ∃ a xs, vs = [.ref a] ∧ SqT K H1 a xs ∧ R (IteT K a) H1
theorem pi_enumT {X : Cx} {e : Expr} {ta : TA} {p pos tpos : Pos} {elts : List Expr} {kk : Nat} (hg : Gl X "enumerate") (hm : X.mg "enumerate" = none) (ha : PA X [e] ta) (hs : starEach [e] X.env = [(false, eval e X.env)] := by rfl) :
    PI X (.Tuple elts kk tpos) (.Call (.Name "enumerate" p) [e] [] pos) (iEnumT X.K ta) := by
  refine ⟨fun pins s σ H R I h => ?_⟩
  refine Call_ (ld_blt I hg hm boot_enumerate (PyProof.Rows.callWith_type1 (thn (ha.run pos pins s σ H _ I h) fun us s1 ⟨vs, H1, I1, r1, q1⟩ => ?_) hs rfl))
  obtain ⟨a, xs, ex, hq, q⟩ := q1
  subst ex
  cases r1 with
  | cons r rr =>
    cases rr
    cases r
    obtain ⟨its, rv, p', hz⟩ := I1.tuple hq
    have p' : s1.heap.IsTuple a its.toArray := p'
    have hal : a < s1.heap.objs.size := by obtain ⟨_, q, _⟩ := p'; exact Heap.lt_size q
    refine call_enumerate_tuple p' fun h' he hit hsz hk => wpAny_pyIter_enum he ?_
    have I2 : Inv X pins σ H1 { s1 with heap := h' } := I1.kept (t' := s1.toks) hk
    refine ⟨s1.heap.objs.size + 1, [s1.heap.objs.size + 1, s1.heap.objs.size], _, _, H1, rfl, I2, turn_enumT a (s1.heap.objs.size + 1) s1.heap.objs.size, ⟨⟨.none, he⟩, hit, Nat.succ_ne_self _, Nat.ne_of_gt (Nat.lt_succ_of_lt hal)⟩, fun b hb => ?_, q⟩
    have e' : b = s1.heap.objs.size + 1 ∨ b = s1.heap.objs.size := by simpa using hb
    have hle : s1.heap.objs.size ≤ b := by
      rcases e' with z | z
      · rw [z]; exact Nat.le_add_right _ _
      · rw [z]; exact Nat.le_refl _
    exact I1.fpOk hle (I1.hok.fresh hle)
end SP
set_option Elab.async false
set_option linter.all false
set_option maxRecDepth 100000
set_option maxHeartbeats 400000
namespace SP
open PySem PySem.Spec PyProof.Rows L2
theorem for_enumT {K : PySem.W.Frag} {a : Addr} {xs : List V} {g : TG} {tb : TS} {D : Ends} {σ : L2.St} {H : Hp} (Pv : Nat → L2.St → Hp → Prop) (h0 : Pv 0 σ H) (hl : ∀ i σ H, i ≤ xs.length → Pv i σ H → SqT K H a xs)
    (hs : ∀ i x T σ H, xs[i]? = some x → H T = none → Pv i σ H → g (.ref T) σ (upd H T (.tup [.int (i : Nat), x])) fun σ2 H2 => tb { D with nx := Pv (i + 1), ct := Pv (i + 1), bk := D.nx } σ2 H2) (hd : ∀ σ H, Pv xs.length σ H → D.nx σ H) :
    ∃ W : Nat → Nat → L2.St → Hp → Prop, (∃ m, W 0 m σ H) ∧ ∀ i m σ H, W i m σ H →
      ((IteT K a).stop i H ∧ D.nx σ H) ∨ ((IteT K a).go i H ∧ ∃ N : L2.St → Hp → Prop, (∀ σ' H', N σ' H' → ∃ m', m' < m ∧ W (i + 1) m' σ' H') ∧ ∀ x H', (IteT K a).yld i H x H' → g x σ H' fun σ2 H2 => tb { D with nx := N, ct := N, bk := D.nx } σ2 H2) := by
  refine ⟨fun i m σ H => m = xs.length - i ∧ i ≤ xs.length ∧ Pv i σ H, ⟨xs.length, by simp, Nat.zero_le _, h0⟩, ?_⟩
  rintro i m σ H ⟨rfl, hi, p⟩
  have q := hl i σ H hi p
  by_cases hlt : i < xs.length
  · refine .inr ⟨⟨xs, xs[i], q, by simp [hlt]⟩, Pv (i + 1), fun σ' H' p' => ⟨xs.length - (i + 1), by omega, rfl, hlt, p'⟩, fun x H' y => ?_⟩
    obtain ⟨T, z, rfl, hT, rfl, y⟩ := y
    exact hs i z T σ _ (y xs q) hT p
  · have e : i = xs.length := by omega
    subst e
    exact .inl ⟨⟨xs, q, Nat.le_refl _⟩, hd σ H p⟩
/-- an own method as it is called -/
structure Own (P : Program) (w : World) (K : PySem.W.Frag) (mg : Str → Option Value) (base : Heap) (C : Addr) (nm : Str) (n : Nat) (sp : Sp) (g : Addr) : Prop where
  at_ : PySem.W.findIn K (.ref C) nm = some (some (.ref g))
  fn : PySem.W.isFn K (.ref g) = true
  ok : FnR P w K mg base CX0 n g sp
/-- more of the text of a class with signs -/
structure SgC (K : PySem.W.Frag) (C : Addr) : Prop where
  ne : PySem.W.findIn K (.ref C) "__ne__" = some (some (.builtin "object.__ne__"))
  fm : PySem.W.findIn K (.ref C) "__format__" = some (some (.builtin "object.__format__"))
  cm : PySem.W.mroIn K C (.type "object") = some true
  nfI : PySem.W.notFirst K C (.type "int") = true
/-! ### the words of a form -/
def wordsAt (j : Nat) (f : Rat) : List Str :=
  if f = 0 then [] else [if 0 < f then ("+" : Str) else ("-" : Str)] ++ (if absQ f = 1 then [] else [amText (absQ f)]) ++ [("t" : Str) ++ iText ((j : Int) + 1)]
def wds (qs : List Rat) (i : Nat) : List Str := (List.range i).flatMap fun j => wordsAt j (qs.getD j 0)
theorem wds_succ {qs : List Rat} {i : Nat} {f : Rat} (h : qs[i]? = some f) : wds qs (i + 1) = wds qs i ++ wordsAt i f := by
  unfold wds
  rw [List.range_succ, List.flatMap_append]
  simp [List.getD, h]
theorem wordsAt_len (j : Nat) (f : Rat) : (wordsAt j f).length ≤ 3 := by
  unfold wordsAt
  split
  · simp
  · split <;> split <;> simp
theorem wds_len (qs : List Rat) (i : Nat) : (wds qs i).length ≤ 3 * i := by
  induction i with
  | zero => simp [wds]
  | succ i ih =>
    unfold wds at ih ⊢
    rw [List.range_succ, List.flatMap_append, List.length_append]
    have := wordsAt_len i (qs.getD i 0)
    simp only [List.flatMap_cons, List.flatMap_nil, List.append_nil]
    omega
theorem absQ_num (q : Rat) : (absQ q).num = q.num.natAbs ∧ (absQ q).den = q.den := by
  rcases (show 0 ≤ q.num ∨ q.num < 0 by omega) with h | h
  · have e : absQ q = q := by
      unfold absQ
      rw [show (q.num.natAbs : Int) = q.num by omega]
      exact Rat.num_divInt_den q
    rw [e]
    exact ⟨by omega, rfl⟩
  · have e : absQ q = -q := by
      unfold absQ
      rw [show (q.num.natAbs : Int) = -q.num by omega, ← q_neg]
    rw [e]
    exact ⟨by rw [Rat.neg_num]; omega, by rw [Rat.neg_den]⟩
theorem TxQ.abs {q : Rat} (h : TxQ q) : TxQ (absQ q) := by
  obtain ⟨e1, e2⟩ := absQ_num q
  unfold TxQ
  rw [e1, e2]
  exact ⟨by simpa using h.1, h.2⟩
theorem TxQ.sz {q : Rat} (h : TxQ q) : SzQ q := ⟨Nat.lt_trans h.1 (by decide), by unfold Bits; simp; exact Nat.lt_trans h.2 (by decide)⟩
theorem sz_int (i : Int) (h : Bits i) : SzQ (i : Rat) := ⟨by rw [Rat.num_intCast]; exact h, by rw [Rat.den_intCast]; unfold Bits; decide⟩
theorem AmsAt.get {C : Addr} {H : Hp} {vs : List V} {qs : List Rat} (h : AmsAt C H vs qs) {i : Nat} {v : V} (e : vs[i]? = some v) : ∃ q, qs[i]? = some q ∧ AmAt C H v q := by
  induction h generalizing i with
  | nil => simp at e
  | cons h _ ih =>
    cases i with
    | zero => simp at e; subst e; exact ⟨_, rfl, h⟩
    | succ i => obtain ⟨q, h1, h2⟩ := ih (i := i) (by simpa using e); exact ⟨q, by simpa using h1, h2⟩
section
variable {P : Program} {w : World} {K : PySem.W.Frag} {mg : Str → Option Value} {base : Heap}
def spWords (C : Addr) : Sp := fun vs H Q _ => ∃ (v : V) (f : Addr) (xs : List V) (q : Rat) (qs : List Rat), vs = [v, .ref f] ∧ AmAt C H v q ∧ H f = some (.tup xs) ∧ AmsAt C H xs qs ∧ TxQ q ∧ (∀ r ∈ qs, TxQ r) ∧ qs.length ≤ 100 ∧
  ∀ l H', Same H H' → H' l = some (.lst ((amText q :: wds qs qs.length).map V.str)) → Q (.ref l) H'
theorem sc_words : FnScope ["constant", "factors", "found", "at", "factor"] ["constant", "factors"] (defScope s_words_of) := ⟨rfl, rfl, rfl, by decide +kernel, rfl, by decide +kernel, by decide +kernel⟩
theorem ok_words {f C gE gG gA gS : Addr} {fd : FuncData} (F : FnP K "words_of" "words_of" s_words_of [] f fd) (T : AmC K mg C) (TI : AmI K C) (TS : SgC K C)
    (E1 : Own P w K mg base C "__eq__" 2 (spEqA K C) gE) (G1 : Own P w K mg base C "__gt__" 5 (spCmp C fun q q2 => decide (q2 < q)) gG) (A1 : Own P w K mg base C "__abs__" 4 (spUn C absQ) gA) (S1 : Own P w K mg base C "__str__" 1 (spStr C) gS)
    (me : mg "enumerate" = none) (ma : mg "abs" = none) : FnOk P w K mg base CX0 6 f fd ["constant", "factors"] (spWords C) := by
  refine F.ok sc_words (fun vs H Q E h => ?_) (fun cdv A outer s H vs Q E hr h => ?_)
  · obtain ⟨v, f, xs, q, qs, rfl, _⟩ := h
    rfl
  · obtain ⟨v, f, xs, q, qs, rfl, hv, hf, hxs, zq, zqs, hlen, k⟩ := h
    refine ⟨_, PSs.nox (pss_cons (ps_set (i := 2) sc_words.nd rfl (.inl rfl) (pe_lst (pa_cons (pe_joined1 (pe_fmtO (pv 0) TS.fm TS.cm S1.at_ S1.fn S1.ok (hr.mono (by decide)) pass0)) pa_nil)))
      (pss_cons (ps_for PassesOwn.never rfl (pi_enumT (by rfl) me (pa_cons (pv 1) pa_nil)) (pg_tup rfl (pgs_cons (pg_name (i := 3) sc_words.nd rfl (.inl rfl)) (pgs_cons (pg_name (i := 4) sc_words.nd rfl (.inl rfl)) pgs_nil)))
        (pss_one (ps_if (pt_cmpR (op_neO TS.ne TS.cm E1.at_ E1.fn E1.ok (hr.mono (by decide)) pass0) (pv 4) pe_int (nomark _))
          (pss_cons (ps_expr (pe_bm PySem.F.plainAttrs_list PySem.F.slot_list_append PySem.F.type_list_append mt_append (pv 2) (pa_cons (pe_ifExp (pt_cmpR (op_cmpO (op := .Gt) (fun _ _ => rfl) G1.at_ G1.fn G1.ok hr pass0) (pv 4) pe_int (nomark _)) pe_str pe_str) pa_nil)))
          (pss_cons (ps_if (pt_cmpR (op_neO TS.ne TS.cm E1.at_ E1.fn E1.ok (hr.mono (by decide)) pass0) (pe_callB (call_absO A1.at_ A1.fn A1.ok hr pass0) (by rfl) ma (by decide +kernel) (pa_cons (pv 4) pa_nil)) pe_int (nomark _))
            (pss_one (ps_expr (pe_bm PySem.F.plainAttrs_list PySem.F.slot_list_append PySem.F.type_list_append mt_append (pv 2) (pa_cons (pe_joined1 (pe_fmtO (pe_callB (call_absO A1.at_ A1.fn A1.ok hr pass0) (by rfl) ma (by decide +kernel) (pa_cons (pv 4) pa_nil)) TS.fm TS.cm S1.at_ S1.fn S1.ok (hr.mono (by decide)) pass0)) pa_nil)))) pss_nil)
          (pss_one (ps_expr (pe_bm PySem.F.plainAttrs_list PySem.F.slot_list_append PySem.F.type_list_append mt_append (pv 2) (pa_cons (pe_joined (.cons pe_str (.cons (pe_fmt (pe_op op_add (pv 3) pe_int)) .nil))) pa_nil)))))) pss_nil)))
      (pss_one (ps_ret (pv 2))))), ?_⟩
    obtain ⟨a, dx, rfl, ha⟩ := id hv
    have sl : sizeLine = 16777216 := by decide
    refine ⟨_, rfl, a, dx, _, rfl, ha, _, q, rfl, hv, zq, _, rfl, (by show 1 ≤ sizeLine; decide), fun l hl => ?_⟩
    refine ⟨_, rfl, f, xs, rfl, SqT.of (by rw [upd_ne (ne_of_none hf hl)]; exact hf), for_enumT (K := K) (a := f) (xs := xs) (fun i σ H2 => ∃ o1 o2, σ = [some (.ref a), some (.ref f), some (.ref l), o1, o2] ∧ Same H H2 ∧ H2 l = some (.lst ((amText q :: wds qs i).map V.str))) ⟨_, _, rfl, same_new (Same.refl _) hl, upd_same⟩ (fun i σ H2 _ ⟨_, _, _, sm, _⟩ => SqT.of (sm _ _ hf)) ?_ ?_⟩
    · rintro i x T σ H2 hx hT ⟨o1, o2, rfl, sm, hl2⟩
      refine ⟨T, _, rfl, SqT.of upd_same, rfl, _, _, rfl, _, _, rfl, rfl, ?_⟩
      obtain ⟨qf, hqf, hxa⟩ := hxs.get hx
      have zf : TxQ qf := zqs qf (List.mem_of_getElem? hqf)
      have hil : i < qs.length := (List.getElem?_eq_some_iff.mp hqf).1
      have wl := wds_len qs i
      have sm3 : Same H (upd H2 T (.tup [.int (i : Nat), x])) := fun b o e => by rw [upd_ne (ne_of_none (sm _ _ e) hT)]; exact sm _ _ e
      have hl3 : (upd H2 T (.tup [.int (i : Nat), x])) l = some (.lst ((amText q :: wds qs i).map V.str)) := by rw [upd_ne (ne_of_none hl2 hT)]; exact hl2
      have hH0 : H l = none := hl
      generalize upd H2 T (.tup [.int (i : Nat), x]) = H3 at sm3 hl3 ⊢
      obtain ⟨a4, d4, rfl, h4⟩ := hxa.mono sm3
      have am4 : AmAt C H3 (.ref a4) qf := ⟨a4, d4, rfl, h4⟩
      refine ⟨_, rfl, a4, d4, _, _, rfl, h4, ty_int, TS.nfI, _, _, qf, some ((0 : Int) : Rat), rfl, am4, .inl ⟨0, rfl, rfl⟩, _, rfl, _, rfl, ?_⟩
      have ws := wds_succ hqf
      by_cases h0 : qf = 0
      · refine iteNS (by rw [h0]; rfl) ?_
        refine ⟨_, _, rfl, sm3, ?_⟩
        rw [ws, show wordsAt i qf = [] by unfold wordsAt; rw [if_pos h0], List.append_nil]
        exact hl3
      · refine iteNF (fun z => h0 (by injection z with z; exact z.symm)) ?_
        have wa : wordsAt i qf = [if 0 < qf then ("+" : Str) else ("-" : Str)] ++ (if absQ qf = 1 then [] else [amText (absQ qf)]) ++ [("t" : Str) ++ iText ((i : Int) + 1)] := by unfold wordsAt; rw [if_neg h0]
        refine ⟨_, rfl, .inl ⟨rfl, _, SqL.of hl3⟩, _, rfl, a4, d4, _, _, rfl, h4, ty_int, TS.nfI, _, _, qf, ((0 : Int) : Rat), rfl, am4, .inl ⟨0, rfl, rfl⟩, zf.sz, sz_int 0 (by unfold Bits; decide), fun H4 e4 => ⟨_, rfl, ?_⟩⟩
        have hl4 := e4 _ _ hl3
        have hsgn : ∃ sg : Str, sg = (if 0 < qf then ("+" : Str) else ("-" : Str)) := ⟨_, rfl⟩
        obtain ⟨sg, hsg⟩ := hsgn
        have l1 : (List.map V.str (amText q :: wds qs i)).length ≤ 1000 := by simp; omega
        refine ite2 (fun hp => ?_) (fun hp => ?_)
        all_goals
          refine ⟨l, _, _, rfl, rfl, hl4, small1000 l1, ?_⟩
          first
            | rw [show (V.str ("+" : Str)) = V.str sg from (by rw [hsg, if_pos (of_decide_eq_true (show decide ((0 : Rat) < qf) = true from hp))])]
            | rw [show (V.str ("-" : Str)) = V.str sg from (by rw [hsg, if_neg (fun z => hp (show decide ((0 : Rat) < qf) = true from decide_eq_true z))])]
          have sm5 : Same H (upd H4 l (.lst ((amText q :: wds qs i).map V.str ++ [V.str sg]))) := same_new (sm3.trans e4) hH0
          have hl5 : (upd H4 l (.lst ((amText q :: wds qs i).map V.str ++ [V.str sg]))) l = some (.lst ((amText q :: wds qs i).map V.str ++ [V.str sg])) := upd_same
          have am5 : AmAt C (upd H4 l (.lst ((amText q :: wds qs i).map V.str ++ [V.str sg]))) (.ref a4) qf := (am4.mono e4).lst hl4
          generalize upd H4 l (.lst ((amText q :: wds qs i).map V.str ++ [V.str sg])) = H5 at sm5 hl5 am5 ⊢
          obtain ⟨_, d5, e5, h5⟩ := id am5
          injection e5 with e5
          subst e5
          refine ⟨_, rfl, a4, d5, _, rfl, h5, _, qf, rfl, am5, zf.sz, fun p6 H6 e6 am6 => ?_⟩
          obtain ⟨a6, d6, rfl, h6⟩ := id am6
          refine ⟨a6, d6, _, _, rfl, h6, ty_int, TS.nfI, _, _, absQ qf, some ((1 : Int) : Rat), rfl, am6, .inl ⟨1, rfl, rfl⟩, _, rfl, _, rfl, ?_⟩
          have hl6 := e6 _ _ hl5
          have sm6 := sm5.trans e6
          -- the last word, from any words so far
          have l2 : ∀ z : List Str, z.length ≤ 900 → (z.map V.str).length < sizeLine := fun z hz => by rw [List.length_map]; omega
          have lt : ("t" : Str).length = 1 := by decide +kernel
          have l0 : Str.empty.length = 0 := by decide +kernel
          have hbi : ((i : Int) + 1).natAbs.log2 < 1900 := by
            have : ((i : Int) + 1).natAbs.log2 < 20 := (Nat.log2_lt (by omega)).mpr (by omega)
            omega
          have li := iText_len hbi
          by_cases h1 : absQ qf = 1
          · refine iteNS (by rw [h1]; rfl) ?_
            refine ⟨_, rfl, .inl ⟨rfl, _, SqL.of hl6⟩, _, rfl, ?_, _, rfl, _, _, rfl, rfl, .inr ⟨_, rfl, Nat.lt_trans hbi (by decide), _, rfl, ?_, ?_⟩⟩
            · show (Str.empty ++ ("t" : Str)).length ≤ sizeLine
              rw [PySem.Str.length_append]; omega
            · show (Str.empty ++ ("t" : Str) ++ iText ((i : Int) + 1)).length ≤ sizeLine
              rw [PySem.Str.length_append, PySem.Str.length_append]; omega
            refine ⟨l, _, _, rfl, rfl, hl6, ?_, _, _, rfl, same_new sm6 hH0, ?_⟩
            · rw [List.length_append]; simp; omega
            · rw [upd_same, ws, wa, if_pos h1, ← hsg]
              show some (HO.lst ((amText q :: wds qs i).map V.str ++ [V.str sg] ++ [V.str (Str.empty ++ ("t" : Str) ++ iText ((i : Int) + 1))])) = _
              rw [PySem.Str.empty_append]
              simp
          · refine iteNF (fun z => h1 (by injection z with z; exact z.symm)) ?_
            refine ⟨_, rfl, .inl ⟨rfl, _, SqL.of hl6⟩, _, rfl, a4, d5, _, rfl, e6 _ _ h5, _, qf, rfl, am5.mono e6, zf.sz, fun p7 H7 e7 am7 => ?_⟩
            obtain ⟨a7, d7, rfl, h7⟩ := id am7
            have hl7 := e7 _ _ hl6
            refine ⟨a7, d7, _, rfl, h7, _, absQ qf, rfl, am7, zf.abs, _, rfl, l, _, _, rfl, rfl, hl7, (by rw [List.length_append]; simp; omega), ?_⟩
            have sm8 : Same H (upd H7 l (.lst ((amText q :: wds qs i).map V.str ++ [V.str sg] ++ [V.str (amText (absQ qf))]))) := same_new (sm6.trans e7) hH0
            have hl8 : (upd H7 l (.lst ((amText q :: wds qs i).map V.str ++ [V.str sg] ++ [V.str (amText (absQ qf))]))) l = some (.lst ((amText q :: wds qs i).map V.str ++ [V.str sg] ++ [V.str (amText (absQ qf))])) := upd_same
            generalize upd H7 l (.lst ((amText q :: wds qs i).map V.str ++ [V.str sg] ++ [V.str (amText (absQ qf))])) = H8 at sm8 hl8 ⊢
            refine ⟨_, rfl, .inl ⟨rfl, _, SqL.of hl8⟩, _, rfl, ?_, _, rfl, _, _, rfl, rfl, .inr ⟨_, rfl, Nat.lt_trans hbi (by decide), _, rfl, ?_, ?_⟩⟩
            · show (Str.empty ++ ("t" : Str)).length ≤ sizeLine
              rw [PySem.Str.length_append]; omega
            · show (Str.empty ++ ("t" : Str) ++ iText ((i : Int) + 1)).length ≤ sizeLine
              rw [PySem.Str.length_append, PySem.Str.length_append]; omega
            refine ⟨l, _, _, rfl, rfl, hl8, ?_, _, _, rfl, same_new sm8 hH0, ?_⟩
            · rw [List.length_append, List.length_append]; simp; omega
            · rw [upd_same, ws, wa, if_neg h1, ← hsg]
              show some (HO.lst ((amText q :: wds qs i).map V.str ++ [V.str sg] ++ [V.str (amText (absQ qf))] ++ [V.str (Str.empty ++ ("t" : Str) ++ iText ((i : Int) + 1))])) = _
              rw [PySem.Str.empty_append]
              simp
    · rintro σ H2 ⟨o1, o2, rfl, sm, hl2⟩
      refine ⟨_, rfl, k l H2 sm ?_⟩
      rw [← hxs.len]
      exact hl2
end
end SP
set_option Elab.async false
set_option linter.all false
set_option maxRecDepth 100000
set_option maxHeartbeats 400000
namespace SP
open PySem PySem.Spec PyProof.Rows L2
theorem sq_cc : (("constant" : Str) == "constant") = true := by decide +kernel
theorem sq_fc : (("factors" : Str) == "constant") = false := by decide +kernel
theorem sq_ff : (("factors" : Str) == "factors") = true := by decide +kernel
theorem lk_con (c f : Addr) : (foF c f).lookup ("constant" : Str) = some (.ref c) := by
  unfold foF List.lookup
  rw [sq_cc]
theorem lk_fac (c f : Addr) : (foF c f).lookup ("factors" : Str) = some (.ref f) := by
  unfold foF List.lookup
  rw [sq_fc]
  unfold List.lookup
  rw [sq_ff]
/-- isinstance of a Form -/
structure FoI (K : PySem.W.Frag) (CF : Addr) : Prop where
  ca : PySem.W.findIn K (.ref CF) "__class__" = some (some (.builtin "object.__class__"))
  cn : PySem.W.specialIn K (.builtin "object.__class__") "__get__" = some (some (.builtin "getset_descriptor.__get__"))
  ct : PySem.W.takesIn K (.builtin "object.__class__") = some true
  cm : PySem.W.mroIn K CF (.type "object") = some true
  kFF : PySem.W.kitOne K (.ref CF) (.ref CF) = some true
def OthF (K : PySem.W.Frag) (C CF : Addr) (H : Hp) (v : V) : Option (Rat × List Rat) → Prop
  | some (q, qs) => FoAt C CF H v q qs
  | none => ∃ t, TyX K H v t ∧ PySem.W.kitOne K t (.ref CF) = some false
theorem prs_am {C : Addr} {H : Hp} {xs ys : List V} {qs rs : List Rat} (h1 : AmsAt C H xs qs) (h2 : AmsAt C H ys rs) : PrsB (DAm C) H xs ys (decide (rs = qs)) := by
  induction h1 generalizing ys rs with
  | nil =>
    cases h2 with
    | nil => exact .nil
    | cons h t => exact .short
  | @cons v q vs qs h t ih =>
    cases h2 with
    | nil => exact .long
    | @cons v2 q2 vs2 qs2 h' t' =>
      by_cases e : q2 = q
      · subst e
        have := ih t'
        have e2 : decide (q2 :: qs2 = q2 :: qs) = decide (qs2 = qs) := decide_eq_decide.mpr ⟨fun z => by injection z, fun z => by rw [z]⟩
        rw [e2]
        exact .same ⟨q2, q2, h, h', by simp⟩ this
      · have e2 : decide (q2 :: qs2 = q :: qs) = false := decide_eq_false fun z => e (by injection z)
        rw [e2]
        exact .diff ⟨q, q2, h, h', (decide_eq_false e).symm⟩
section
variable {P : Program} {w : World} {K : PySem.W.Frag} {mg : Str → Option Value} {base : Heap}
theorem FoI.ty {C CF : Addr} {H : Hp} {v : V} {q : Rat} {qs : List Rat} (I : FoI K CF) (c : Cls K CF) (h : FoAt C CF H v q qs) : TyX K H v (.ref CF) := by
  obtain ⟨a, dx, _, _, _, rfl, h, _⟩ := h
  exact .base (.ins h c I.ca I.cn I.ct I.cm)
def spFoE (K : PySem.W.Frag) (C CF : Addr) : Sp := fun vs H Q _ => ∃ (v o : V) (q : Rat) (qs : List Rat) (r : Option (Rat × List Rat)), vs = [v, o] ∧ FoAt C CF H v q qs ∧ OthF K C CF H o r ∧ Q (.bl (decide (r = some (q, qs)))) H
theorem sc_feq : FnScope ["self", "other"] ["self", "other"] (defScope s_Form_eq) := ⟨rfl, rfl, rfl, by decide +kernel, rfl, by decide +kernel, by decide +kernel⟩
theorem nf_self {C : Addr} : PySem.W.notFirst K C (.ref C) = true := by simp [PySem.W.notFirst]
theorem ok_feq {f C CF gE : Addr} {fd : FuncData} (F : FnP K "__eq__" "Form.__eq__" s_Form_eq [] f fd) (T : AmC K mg C) (TI : AmI K C) (TF : FoC K mg CF) (FI : FoI K CF)
    (E1 : Own P w K mg base C "__eq__" 2 (spEqA K C) gE) (mI : mg "isinstance" = none) : FnOk P w K mg base CX0 4 f fd ["self", "other"] (spFoE K C CF) := by
  refine F.ok sc_feq (fun vs H Q E h => ?_) (fun cdv A outer s H vs Q E hr h => ?_)
  · obtain ⟨v, o, q, qs, r, rfl, _⟩ := h
    rfl
  · obtain ⟨v, o, q, qs, r, rfl, ⟨a, dx, c, g, xs, rfl, ha, hc, hg, hxs⟩, ho, k⟩ := h
    refine ⟨_, PSs.nox (pss_one (ps_ret (pe_and (pe_callB call_isi (by rfl) mI (by decide +kernel) (pa_cons (pv 1) (pa_cons (pe_glob (v := .ref CF) (by rfl) TF.mgF rfl) pa_nil)))
      (pe_and (pe_cmpR (op_cmpO (op := .Eq) (fun _ _ => rfl) E1.at_ E1.fn E1.ok (hr.mono (by decide)) pass0) (pe_fld (pv 0) rfl) (pe_fld (pv 1) rfl) (nomark _))
      (pe_one (pe_cmpR (op_eqT (n := 2) (D := DAm C) (eqV_am (E := E0) E1.ok TI T.cl E1.at_ E1.fn) hr) (pe_fld (pv 0) rfl) (pe_fld (pv 1) rfl) (nomark _))))))), ?_⟩
    have fin : ∀ (b : Bool) (H2 : Hp), H2 = H → (b = decide (r = some (q, qs))) → Q (.bl b) H2 := fun b H2 e1 e2 => by rw [e1, e2]; exact k
    cases r with
    | none =>
      obtain ⟨t, ty, k1⟩ := ho
      exact ⟨_, rfl, _, _, _, _, _, rfl, .own CF, ty, k1, _, rfl, iteF (fin _ _ rfl (by simp))⟩
    | some p =>
      obtain ⟨q2, qs2⟩ := p
      have ty := FI.ty TF.cl (show FoAt C CF H o q2 qs2 from ho)
      obtain ⟨a2, dx2, c2, g2, xs2, rfl, ha2, hc2, hg2, hxs2⟩ := (show FoAt C CF H o q2 qs2 from ho)
      refine ⟨_, rfl, _, _, _, _, _, rfl, .own CF, ty, FI.kFF, _, rfl, iteT ?_⟩
      obtain ⟨c', dc, e, hcc⟩ := id hc
      injection e with e
      subst e
      refine ⟨_, rfl, a, CF, dx, _, _, rfl, ha, TF.cl, TF.nC, lk_con c g, _, rfl, a2, CF, dx2, _, _, rfl, ha2, TF.cl, TF.nC, lk_con c2 g2, c, dc, _, _, rfl, hcc, TI.ty T.cl hc2, nf_self, _, _, q, some q2, rfl, hc, .inr hc2, _, rfl, ?_⟩
      refine ite2 (fun h1 => ?_) (fun h1 => ?_)
      · refine ⟨_, rfl, a, CF, dx, _, _, rfl, ha, TF.cl, TF.nF, lk_fac c g, _, rfl, a2, CF, dx2, _, _, rfl, ha2, TF.cl, TF.nF, lk_fac c2 g2, g, g2, _, _, _, rfl, rfl, SqT.of hg, SqT.of hg2, prs_am hxs hxs2, ?_⟩
        refine fin _ _ rfl ?_
        have h1 := of_decide_eq_true h1
        injection h1 with h1
        exact decide_eq_decide.mpr ⟨fun z => by rw [z, h1], fun z => by injection z with z; injection z⟩
      · refine fin _ _ rfl ?_
        refine (decide_eq_false fun z => h1 (decide_eq_true ?_)).symm
        injection z with z
        injection z with z _
        rw [z]
end
end SP
set_option Elab.async false
set_option linter.all false
set_option maxRecDepth 100000
set_option maxHeartbeats 400000
namespace SP
open PySem PySem.Spec PyProof.Rows L2
def foText (q : Rat) (qs : List Rat) : Str := Txt.join (" " : Str) (amText q :: wds qs qs.length)
theorem sum_le {l : List Str} {m : Nat} (h : ∀ x ∈ l, x.length ≤ m) : (l.map (·.length)).sum ≤ l.length * m := by
  induction l with
  | nil => simp
  | cons a r ih =>
    have h1 := h a (by simp)
    have h2 := ih fun x hx => h x (by simp [hx])
    simp only [List.map_cons, List.sum_cons, List.length_cons, Nat.succ_mul]
    omega
theorem wordsAt_ok {j : Nat} {f : Rat} (hj : j < 1000) (hf : TxQ f) : ∀ x ∈ wordsAt j f, x.length ≤ 4000 := by
  have lp : ("+" : Str).length = 1 := by decide +kernel
  have lm : ("-" : Str).length = 1 := by decide +kernel
  have lt : ("t" : Str).length = 1 := by decide +kernel
  have hbi : ((j : Int) + 1).natAbs.log2 < 1900 := by
    have : ((j : Int) + 1).natAbs.log2 < 20 := (Nat.log2_lt (by omega)).mpr (by omega)
    omega
  have li := iText_len hbi
  have la := amText_len hf.abs
  intro x hx
  unfold wordsAt at hx
  split at hx
  · simp at hx
  · rcases List.mem_append.mp hx with hx | hx
    · rcases List.mem_append.mp hx with hx | hx
      · rw [List.mem_singleton] at hx
        rw [hx]
        split <;> omega
      · split at hx
        · simp at hx
        · rw [List.mem_singleton] at hx
          rw [hx]
          exact la
    · rw [List.mem_singleton] at hx
      rw [hx, PySem.Str.length_append]
      omega
theorem words_ok {q : Rat} {qs : List Rat} (hq : TxQ q) (hqs : ∀ r ∈ qs, TxQ r) (hl : qs.length ≤ 100) : ∀ x ∈ amText q :: wds qs qs.length, x.length ≤ 4000 := by
  intro x hx
  rcases List.mem_cons.mp hx with rfl | hx
  · exact amText_len hq
  · unfold wds at hx
    obtain ⟨j, hj, hx⟩ := List.mem_flatMap.mp hx
    rw [List.mem_range] at hj
    refine wordsAt_ok (by omega) ?_ x hx
    have : qs.getD j 0 = qs[j] := by simp [List.getD, hj]
    rw [this]
    exact hqs _ (List.getElem_mem hj)
section
variable {P : Program} {w : World} {K : PySem.W.Frag} {mg : Str → Option Value} {base : Heap}
def spFoS (C CF : Addr) : Sp := fun vs H Q _ => ∃ (v : V) (q : Rat) (qs : List Rat), vs = [v] ∧ FoAt C CF H v q qs ∧ TxQ q ∧ (∀ r ∈ qs, TxQ r) ∧ qs.length ≤ 100 ∧ ∀ H', Same H H' → Q (.str (foText q qs)) H'
theorem sc_fstr : FnScope ["self"] ["self"] (defScope s_Form_str) := ⟨rfl, rfl, rfl, by decide +kernel, rfl, by decide +kernel, by decide +kernel⟩
theorem ok_fstr {f C CF fW : Addr} {fd fdW : FuncData} (F : FnP K "__str__" "Form.__str__" s_Form_str [] f fd) (TF : FoC K mg CF) (W : FnOk P w K mg base CX0 6 fW fdW ["constant", "factors"] (spWords C)) (FW : FnP K "words_of" "words_of" s_words_of [] fW fdW) (gW : mg "words_of" = some (.ref fW)) :
    FnOk P w K mg base CX0 7 f fd ["self"] (spFoS C CF) := by
  have bW : Binds K fdW ["constant", "factors"] [] := FW.bindsN fun _ _ _ _ _ _ us hl => match us, hl with | [_, _], _ => rfl
  refine F.ok sc_fstr (fun vs H Q E h => ?_) (fun cdv A outer s H vs Q E hr h => ?_)
  · obtain ⟨v, q, qs, rfl, _⟩ := h
    rfl
  · obtain ⟨v, q, qs, rfl, ⟨a, dx, c, g, xs, rfl, ha, hc, hg, hxs⟩, zq, zqs, hl, k⟩ := h
    refine ⟨_, PSs.nox (pss_one (ps_ret (pe_join pe_str (pe_call W hr rfl gW FW.kp bW .nil pass0 (pa_cons (pe_fld (pv 0) rfl) (pa_cons (pe_fld (pv 0) rfl) pa_nil)))))), ?_⟩
    refine ⟨⟨_, rfl⟩, _, rfl, a, CF, dx, _, _, rfl, ha, TF.cl, TF.nC, lk_con c g, _, rfl, a, CF, dx, _, _, rfl, ha, TF.cl, TF.nF, lk_fac c g, _, g, xs, q, qs, rfl, hc, hg, hxs, zq, zqs, hl, fun l H' e hl' => ?_⟩
    refine ⟨_, l, _, rfl, rfl, .inl (SqL.of hl'), ?_, k H' e⟩
    have h1 := sum_le (words_ok zq zqs hl)
    have h2 := wds_len qs qs.length
    have h3 : (" " : Str).length = 1 := by decide +kernel
    simp only [List.length_cons] at h1 ⊢
    rw [h3]
    have h4 : ((wds qs qs.length).length + 1) * 4000 ≤ 301 * 4000 := Nat.mul_le_mul_right _ (by omega)
    omega
end
end SP
set_option Elab.async false
set_option linter.all false
set_option maxRecDepth 100000
set_option maxHeartbeats 400000
namespace SP
open PySem PySem.Spec PyProof.Rows L2
/-! ### pairs of ints -/
def PairAt (H : Hp) (v : V) (p : Int × Int) : Prop := ∃ a, v = .ref a ∧ H a = some (.tup [.int p.1, .int p.2])
inductive PairsAt (H : Hp) : List V → List (Int × Int) → Prop
  | nil : PairsAt H [] []
  | cons {v : V} {p : Int × Int} {vs : List V} {ps : List (Int × Int)} : PairAt H v p → PairsAt H vs ps → PairsAt H (v :: vs) (p :: ps)
theorem PairAt.mono {H H' : Hp} {v : V} {p : Int × Int} (h : PairAt H v p) (e : Same H H') : PairAt H' v p := by
  obtain ⟨a, rfl, h⟩ := h
  exact ⟨a, rfl, e _ _ h⟩
theorem PairAt.lst {H : Hp} {v : V} {p : Int × Int} {D : Addr} {xs zs : List V} (h : PairAt H v p) (hD : H D = some (.lst xs)) : PairAt (upd H D (.lst zs)) v p := by
  obtain ⟨a, rfl, h⟩ := h
  exact ⟨a, rfl, by rw [upd_ne (ne_of h hD (by intro z; cases z))]; exact h⟩
theorem PairsAt.imp {H H' : Hp} {vs : List V} {ps : List (Int × Int)} (h : PairsAt H vs ps) (k : ∀ v p, PairAt H v p → PairAt H' v p) : PairsAt H' vs ps := by
  induction h with
  | nil => exact .nil
  | cons h _ ih => exact .cons (k _ _ h) ih
theorem PairsAt.mono {H H' : Hp} {vs : List V} {ps : List (Int × Int)} (h : PairsAt H vs ps) (e : Same H H') : PairsAt H' vs ps := h.imp fun _ _ h => h.mono e
theorem PairAt.frp {H H' : Hp} {v : V} {p : Int × Int} {pen : Addr} {n : Nat} (h : PairAt H v p) (hp : PenAt H pen n) (e : FrP pen H H') : PairAt H' v p := by
  obtain ⟨a, rfl, h⟩ := h
  obtain ⟨_, _, _, _, h1, _⟩ := hp.ex
  exact ⟨a, rfl, e.1 _ _ (ne_of h h1 (by intro z; cases z)) h⟩
theorem PairsAt.frp {H H' : Hp} {vs : List V} {ps : List (Int × Int)} {pen : Addr} {n : Nat} (h : PairsAt H vs ps) (hp : PenAt H pen n) (e : FrP pen H H') : PairsAt H' vs ps := h.imp fun _ _ h => h.frp hp e
theorem PairsAt.len {H : Hp} {vs : List V} {ps : List (Int × Int)} (h : PairsAt H vs ps) : vs.length = ps.length := by
  induction h with
  | nil => rfl
  | cons h _ ih => simp [ih]
theorem PairsAt.get {H : Hp} {vs : List V} {ps : List (Int × Int)} (h : PairsAt H vs ps) {i : Nat} {v : V} (e : vs[i]? = some v) : ∃ p, ps[i]? = some p ∧ PairAt H v p := by
  induction h generalizing i with
  | nil => simp at e
  | cons h _ ih =>
    cases i with
    | zero => simp at e; subst e; exact ⟨_, rfl, h⟩
    | succ i => obtain ⟨q, h1, h2⟩ := ih (i := i) (by simpa using e); exact ⟨q, by simpa using h1, h2⟩
theorem PairsAt.append {H : Hp} {vs ws : List V} {ps qs : List (Int × Int)} (h : PairsAt H vs ps) (h2 : PairsAt H ws qs) : PairsAt H (vs ++ ws) (ps ++ qs) := by
  induction h with
  | nil => exact h2
  | cons h _ ih => exact .cons h ih
theorem PairsAt.set {H : Hp} {vs : List V} {ps : List (Int × Int)} (h : PairsAt H vs ps) {v : V} {p : Int × Int} (hv : PairAt H v p) (i : Nat) : PairsAt H (vs.set i v) (ps.set i p) := by
  induction h generalizing i with
  | nil => exact .nil
  | cons h t ih =>
    cases i with
    | zero => exact .cons hv t
    | succ i => exact .cons h (ih i)
/-- displays of pairs, one behind the other -/
inductive TPs (σ : L2.St) : TA → List (Int × Int) → Prop
  | nil : TPs σ tNil []
  | cons {t1 t2 : TE} {t : TA} {i j : Int} {ps : List (Int × Int)} : (∀ (H : Hp) (Q : VK), Q (.int i) H → t1 σ H Q) → (∀ (H : Hp) (Q : VK), Q (.int j) H → t2 σ H Q) → TPs σ t ps → TPs σ (tCons (tTup (tCons t1 (tCons t2 tNil))) t) ((i, j) :: ps)
theorem TPs.run {σ : L2.St} {t : TA} {ps : List (Int × Int)} (h : TPs σ t ps) : ∀ (H : Hp) (Q : List V → Hp → Prop), (∀ vs H', Same H H' → PairsAt H' vs ps → Q vs H') → t σ H Q := by
  induction h with
  | nil => exact fun H Q k => k [] H (Same.refl _) .nil
  | @cons t1 t2 t i j ps h1 h2 _ ih =>
    intro H Q k
    refine h1 H _ (h2 H _ ⟨(by show 2 ≤ sizeLine; decide), fun p hp => ?_⟩)
    have s1 : Same H (upd H p (.tup [.int i, .int j])) := same_new (Same.refl _) hp
    refine ih _ _ fun vs H' e hv => k _ H' (s1.trans e) (.cons ⟨p, rfl, e _ _ upd_same⟩ hv)
theorem set_pairs {t : TA} {U : TS} {i : Nat} {D : Ends} {σ : L2.St} {H : Hp} {ps : List (Int × Int)} (h : TPs σ t ps) (hl : ps.length ≤ 1000)
    (k : ∀ vs l H', Same H H' → PairsAt H' vs ps → H l = none → H' l = some (.lst vs) → U D (σ.set i (some (.ref l))) H') : tSeq (tAsg (tLst t) (gName i)) U D σ H := by
  show t σ H _
  refine h.run H _ fun vs H1 e1 hv => ?_
  refine ⟨(by rw [hv.len]; exact Nat.le_trans hl (by decide)), fun l hl1 => ?_⟩
  have e2 : Same H1 (upd H1 l (.lst vs)) := same_new (Same.refl _) hl1
  exact k vs l _ (e1.trans e2) (hv.mono e2) (e1.free hl1) upd_same
/-! ### _law_part -/
structure PartOk (p : Int × Int) : Prop where
  b0 : 0 < p.2
  b3 : p.2 ≤ 3
  tl : p.1.natAbs ≤ 10 ^ 29
  num : (Rat.divInt p.1 p.2).num = p.1
  den : ((Rat.divInt p.1 p.2).den : Int) = p.2
theorem part_of {t b : Int} (h0 : 0 < b) (h3 : b ≤ 3) (ht : t.natAbs ≤ 10 ^ 29) (hg : Nat.gcd t.natAbs b.natAbs = 1) : PartOk (t, b) := by
  obtain ⟨e1, e2⟩ := amount_init (t := t) (b := b) (by omega)
  rw [hg, if_neg (by omega)] at e1 e2
  refine ⟨h0, h3, ht, ?_, ?_⟩
  · rw [← e1]
    show t.fdiv 1 = t
    rw [Int.fdiv_eq_ediv_of_nonneg _ (by decide), Int.ediv_one]
  · rw [← e2]
    show b.fdiv 1 = b
    rw [Int.fdiv_eq_ediv_of_nonneg _ (by decide), Int.ediv_one]
theorem part_one {t : Int} (ht : t.natAbs ≤ 10 ^ 29) : PartOk (t, 1) := part_of (by decide) (by decide) ht (Nat.gcd_one_right _)
def parts0 : List (Int × Int) := [(0, 1), (0, 1), (1, 1), (-1, 1), (2, 1), (-2, 1), (1, 2), (-1, 2), (7, 3), (-115, 2), ((10 : Int) ^ (29 : Int).toNat, 1)]
theorem parts0_ok : ∀ p ∈ parts0, PartOk p := by
  intro p hp
  unfold parts0 at hp
  simp only [List.mem_cons, List.mem_nil_iff, or_false] at hp
  rcases hp with rfl | rfl | rfl | rfl | rfl | rfl | rfl | rfl | rfl | rfl | rfl <;> exact part_of (by decide +kernel) (by decide +kernel) (by decide +kernel) (by decide +kernel)
section
variable {P : Program} {w : World} {K : PySem.W.Frag} {mg : Str → Option Value} {base : Heap}
def spPart : Sp := fun vs H Q _ => ∃ (pen : Addr) (n : Nat), vs = [.ref pen] ∧ PenAt H pen n ∧ n < 900000 ∧ ∀ v p H', PartOk p → PairAt H' v p → PenAt H' pen (n + 2) → FrP pen H H' → Q v H'
theorem sc_part : FnScope ["_law_pen_here", "_law_some"] ["_law_pen_here"] (defScope s_law_part) := ⟨rfl, rfl, rfl, by decide +kernel, rfl, by decide +kernel, by decide +kernel⟩
theorem ok_part {f fD fP : Addr} {fd fdD fdP : FuncData} (F : FnP K "_law_part" "_law_part" s_law_part [] f fd) (D : FnOk P w K mg base CX0 1 fD fdD ["_law_pen_here", "_law_many"] spDraw) (FD : FnP K "_law_draw" "_law_draw" s_law_draw [] fD fdD) (gD : mg "_law_draw" = some (.ref fD))
    (PK : FnOk P w K mg base CX0 2 fP fdP ["_law_pen_here", "_law_some"] spPick) (FP : FnP K "_law_pick" "_law_pick" s_law_pick [] fP fdP) (gP : mg "_law_pick" = some (.ref fP)) : FnOk P w K mg base CX0 3 f fd ["_law_pen_here"] spPart := by
  have bD : Binds K fdD ["_law_pen_here", "_law_many"] [] := FD.bindsN fun _ _ _ _ _ _ us hl => match us, hl with | [_, _], _ => rfl
  have bP : Binds K fdP ["_law_pen_here", "_law_some"] [] := FP.bindsN fun _ _ _ _ _ _ us hl => match us, hl with | [_, _], _ => rfl
  refine F.ok sc_part (fun vs H Q E h => ?_) (fun cdv A outer s H vs Q E hr h => ?_)
  · obtain ⟨pen, n, rfl, _⟩ := h
    rfl
  · obtain ⟨pen, n, rfl, hp, hn, k⟩ := h
    refine ⟨_, PSs.nox (pss_cons (ps_set (i := 1) sc_part.nd rfl (.inl rfl) (pe_lst (pa_cons (pe_tup (pa_cons pe_int (pa_cons pe_int pa_nil))) (pa_cons (pe_tup (pa_cons pe_int (pa_cons pe_int pa_nil))) (pa_cons (pe_tup (pa_cons pe_int (pa_cons pe_int pa_nil))) (pa_cons (pe_tup (pa_cons (pe_un un_neg pe_int) (pa_cons pe_int pa_nil))) (pa_cons (pe_tup (pa_cons pe_int (pa_cons pe_int pa_nil))) (pa_cons (pe_tup (pa_cons (pe_un un_neg pe_int) (pa_cons pe_int pa_nil))) (pa_cons (pe_tup (pa_cons pe_int (pa_cons pe_int pa_nil))) (pa_cons (pe_tup (pa_cons (pe_un un_neg pe_int) (pa_cons pe_int pa_nil))) (pa_cons (pe_tup (pa_cons pe_int (pa_cons pe_int pa_nil))) (pa_cons (pe_tup (pa_cons (pe_un un_neg pe_int) (pa_cons pe_int pa_nil))) (pa_cons (pe_tup (pa_cons (pe_op op_pow pe_int pe_int) (pa_cons pe_int pa_nil))) pa_nil)))))))))))))
      (pss_one (ps_ret (pe_call PK hr rfl gP FP.kp bP .nil pass0 (pa_cons (pv 0) (pa_cons (pe_op op_cat (pv 1) (pe_lst (pa_cons (pe_tup (pa_cons (pe_op op_sub (pe_call D (hr.mono (by decide)) rfl gD FD.kp bD .nil pass0 (pa_cons (pv 0) (pa_cons pe_int pa_nil))) pe_int) (pa_cons pe_int pa_nil))) (pa_cons (pe_tup (pa_cons (pe_un un_neg (pe_op op_pow pe_int pe_int)) (pa_cons pe_int pa_nil))) pa_nil)))) pa_nil)))))), ?_⟩
    refine set_pairs (.cons (fun _ _ q => q) (fun _ _ q => q) (.cons (fun _ _ q => q) (fun _ _ q => q) (.cons (fun _ _ q => q) (fun _ _ q => q) (.cons (fun _ _ q => ⟨_, rfl, q⟩) (fun _ _ q => q) (.cons (fun _ _ q => q) (fun _ _ q => q) (.cons (fun _ _ q => ⟨_, rfl, q⟩) (fun _ _ q => q) (.cons (fun _ _ q => q) (fun _ _ q => q) (.cons (fun _ _ q => ⟨_, rfl, q⟩) (fun _ _ q => q) (.cons (fun _ _ q => q) (fun _ _ q => q) (.cons (fun _ _ q => ⟨_, rfl, q⟩) (fun _ _ q => q) (.cons (fun _ _ q => ⟨_, _, rfl, rfl, ⟨by decide, by decide, by decide⟩, q⟩) (fun _ _ q => q) .nil))))))))))) (by decide) fun vs l H2 e12 hv2 hl hl2 => ?_
    have hv2 : PairsAt H2 vs parts0 := hv2
    have lv : vs.length = 11 := hv2.len
    have hp2 := hp.same e12
    obtain ⟨_, _, _, _, hpx, _⟩ := hp.ex
    have nlp : l ≠ pen := (ne_of_none hpx hl).symm
    refine ⟨_, rfl, _, rfl, _, rfl, pen, 99, n, rfl, hp2, by omega, by decide, by unfold Bits; decide, fun d H3 d0 d1 hp3 fr3 => ?_⟩
    refine ⟨_, _, rfl, rfl, (by show 2 ≤ sizeLine; decide), fun p1 h1 => ?_⟩
    refine ⟨_, _, rfl, rfl, ⟨by decide, by decide, by decide⟩, _, rfl, (by show 2 ≤ sizeLine; decide), fun p2 h2 => ?_⟩
    refine ⟨(by show 2 ≤ sizeLine; decide), fun l2 h3 => ?_⟩
    have f1 : Same H3 (upd H3 p1 (.tup [.int (d - 49), .int 1])) := same_new (Same.refl _) h1
    have f2 := same_new (o := .tup [.int (-(10 : Int) ^ (29 : Int).toNat), .int 3]) (Same.refl (upd H3 p1 (.tup [.int (d - 49), .int 1]))) h2
    have f3 := same_new (o := .lst [V.ref p1, V.ref p2]) (Same.refl (upd (upd H3 p1 (.tup [.int (d - 49), .int 1])) p2 (.tup [.int (-(10 : Int) ^ (29 : Int).toNat), .int 3]))) h3
    have hs3 := f1.trans (f2.trans f3)
    have q1 : PairAt (upd (upd (upd H3 p1 (.tup [.int (d - 49), .int 1])) p2 (.tup [.int (-(10 : Int) ^ (29 : Int).toNat), .int 3])) l2 (.lst [V.ref p1, V.ref p2])) (.ref p1) (d - 49, 1) := ⟨p1, rfl, f3 _ _ (f2 _ _ upd_same)⟩
    have q2 : PairAt (upd (upd (upd H3 p1 (.tup [.int (d - 49), .int 1])) p2 (.tup [.int (-(10 : Int) ^ (29 : Int).toNat), .int 3])) l2 (.lst [V.ref p1, V.ref p2])) (.ref p2) (-(10 : Int) ^ (29 : Int).toNat, 3) := ⟨p2, rfl, f3 _ _ upd_same⟩
    have q3 : (upd (upd (upd H3 p1 (.tup [.int (d - 49), .int 1])) p2 (.tup [.int (-(10 : Int) ^ (29 : Int).toNat), .int 3])) l2 (.lst [V.ref p1, V.ref p2])) l2 = some (.lst [V.ref p1, V.ref p2]) := upd_same
    have hp4 := hp3.same hs3
    have hl4 := hs3 _ _ (fr3.1 _ _ nlp hl2)
    have hv4 := (hv2.frp hp2 fr3).mono hs3
    have fr4 : FrP pen H2 _ := fr3.trans (frp_of hs3)
    generalize upd (upd (upd H3 p1 (.tup [.int (d - 49), .int 1])) p2 (.tup [.int (-(10 : Int) ^ (29 : Int).toNat), .int 3])) l2 (.lst [V.ref p1, V.ref p2]) = H4 at q1 q2 q3 hp4 hl4 hv4 fr4
    refine ⟨l, l2, _, _, rfl, rfl, hl4, q3, (by rw [lv]; show 13 ≤ sizeLine; decide), fun l3 h4 => ?_⟩
    have f4 := same_new (o := .lst (vs ++ [V.ref p1, V.ref p2])) (Same.refl H4) h4
    have hpx4 := hp4.ex
    obtain ⟨_, _, _, _, hpy, _⟩ := hpx4
    have n3p : l3 ≠ pen := (ne_of_none hpy h4).symm
    refine ⟨pen, l3, _, n + 1, rfl, hp4.same f4, by omega, upd_same, n3p, by simp, (by simp [lv]), fun i v H' hi hp5 fr5 => ?_⟩
    have all : PairsAt (upd H4 l3 (.lst (vs ++ [V.ref p1, V.ref p2]))) (vs ++ [V.ref p1, V.ref p2]) (parts0 ++ [(d - 49, 1), (-(10 : Int) ^ (29 : Int).toNat, 3)]) := (hv4.append (.cons q1 (.cons q2 .nil))).mono f4
    obtain ⟨p, hpi, hpa⟩ := all.get hi
    have hpm := List.mem_of_getElem? hpi
    have pok : PartOk p := by
      rcases List.mem_append.mp hpm with h | h
      · exact parts0_ok p h
      · simp only [List.mem_cons, List.mem_nil_iff, or_false] at h
        rcases h with rfl | rfl
        · exact part_one (by omega)
        · exact part_of (by decide +kernel) (by decide +kernel) (by decide +kernel) (by decide +kernel)
    exact k v p H' pok (hpa.frp (hp4.same f4) fr5) hp5 (((FrP.trans (frp_of e12) fr4)).trans (FrP.trans (frp_of f4) fr5))
end
end SP
set_option Elab.async false
set_option linter.all false
set_option maxRecDepth 100000
set_option maxHeartbeats 400000
namespace SP
open PySem PySem.Spec PyProof.Rows L2
/-! ### _law_word, _law_text -/
def wordOf (t b : Int) : Str := if b = 1 then iText t else iText t ++ ("/" : Str) ++ iText b
theorem wordOf_len {t b : Int} (h1 : t.natAbs.log2 < 1900) (h2 : b.natAbs.log2 < 1900) : (wordOf t b).length ≤ 4000 := by
  have l1 := iText_len h1
  have l2 := iText_len h2
  have h3 : ("/" : Str).length = 1 := by decide +kernel
  unfold wordOf
  split
  · omega
  · rw [PySem.Str.length_append, PySem.Str.length_append]
    omega
def lawStep (acc : Str) (k : Int) (p : Int × Int) : Str :=
  if p.1 = 0 then acc else acc ++ (if 0 < p.1 then (" + " : Str) else (" - " : Str)) ++ (if (p.1.natAbs : Int) = 1 ∧ p.2 = 1 then ("" : Str) else wordOf p.1.natAbs p.2 ++ (" " : Str)) ++ ("t" : Str) ++ iText k
def lawTextTo (ps : List (Int × Int)) : Nat → Str
  | 0 => wordOf (ps.getD 0 (0, 1)).1 (ps.getD 0 (0, 1)).2
  | i + 1 => lawStep (lawTextTo ps i) ((i : Int) + 1) (ps.getD (i + 1) (0, 1))
def lawText (ps : List (Int × Int)) : Str := lawTextTo ps (ps.length - 1)
theorem PartOk.log {p : Int × Int} (h : PartOk p) : p.1.natAbs.log2 < 200 ∧ p.2.natAbs.log2 < 200 := by
  obtain ⟨h0, h3, ht, _, _⟩ := h
  refine ⟨?_, ?_⟩
  · by_cases e : p.1.natAbs = 0
    · rw [e]; decide
    · exact (Nat.log2_lt e).mpr (Nat.lt_of_le_of_lt ht (by decide +kernel))
  · have e : p.2.natAbs ≠ 0 := by omega
    exact (Nat.log2_lt e).mpr (Nat.lt_of_le_of_lt (show p.2.natAbs ≤ 3 by omega) (by decide +kernel))
theorem lawTextTo_len {ps : List (Int × Int)} (h : ∀ p ∈ ps, PartOk p) : ∀ i : Nat, i ≤ 1000 → (lawTextTo ps i).length ≤ 9000 * (i + 1) := by
  have hg : ∀ i, PartOk (ps.getD i (0, 1)) := fun i => by
    by_cases hi : i < ps.length
    · rw [show ps.getD i (0, 1) = ps[i] by simp [List.getD, hi]]
      exact h _ (List.getElem_mem hi)
    · rw [show ps.getD i (0, 1) = (0, 1) by simp [List.getD, Nat.le_of_not_lt hi]]
      exact part_one (by decide +kernel)
  have lp : (" + " : Str).length = 3 := by decide +kernel
  have lm : (" - " : Str).length = 3 := by decide +kernel
  have ls : (" " : Str).length = 1 := by decide +kernel
  have l0 : ("" : Str).length = 0 := by decide +kernel
  have lt : ("t" : Str).length = 1 := by decide +kernel
  intro i
  induction i with
  | zero =>
    intro _
    obtain ⟨a, b⟩ := (hg 0).log
    exact Nat.le_trans (wordOf_len (by omega) (by omega)) (by decide)
  | succ i ih =>
    intro hi
    have := ih (by omega)
    obtain ⟨a, b⟩ := (hg (i + 1)).log
    have w1 := wordOf_len (t := ((ps.getD (i + 1) (0, 1)).1.natAbs : Int)) (b := (ps.getD (i + 1) (0, 1)).2) (by rw [Int.natAbs_natCast]; omega) (by omega)
    have hbi : ((i : Int) + 1).natAbs.log2 < 1900 := by
      have : ((i : Int) + 1).natAbs.log2 < 20 := (Nat.log2_lt (by omega)).mpr (by omega)
      omega
    have li := iText_len hbi
    show (lawStep (lawTextTo ps i) ((i : Int) + 1) (ps.getD (i + 1) (0, 1))).length ≤ _
    unfold lawStep
    split
    · omega
    · simp only [PySem.Str.length_append]
      split <;> split <;> (try simp only [PySem.Str.length_append]) <;> omega
section
variable {P : Program} {w : World} {K : PySem.W.Frag} {mg : Str → Option Value} {base : Heap}
def spWord : Sp := fun vs H Q _ => ∃ (v : V) (t b : Int), vs = [v] ∧ PairAt H v (t, b) ∧ t.natAbs.log2 < 1900 ∧ b.natAbs.log2 < 1900 ∧ Q (.str (wordOf t b)) H
theorem sc_word : FnScope ["_law_part_here"] ["_law_part_here"] (defScope s_law_word) := ⟨rfl, rfl, rfl, by decide +kernel, rfl, by decide +kernel, by decide +kernel⟩
theorem ok_word {f : Addr} {fd : FuncData} (F : FnP K "_law_word" "_law_word" s_law_word [] f fd) (ms : mg "str" = none) : FnOk P w K mg base CX0 1 f fd ["_law_part_here"] spWord := by
  refine F.ok sc_word (fun vs H Q E h => ?_) (fun cdv A outer s H vs Q E hr h => ?_)
  · obtain ⟨v, t, b, rfl, _⟩ := h
    rfl
  · obtain ⟨v, t, b, rfl, ⟨a, rfl, ha⟩, z1, z2, k⟩ := h
    refine ⟨_, PSs.nox (pss_one (ps_ret (pe_ifExp (pt_cmpR op_eq (pe_ix ix_tup (pv 0) pe_int (fun _ _ => rfl)) pe_int (nomark _)) (pe_callTy call_str_int (by rfl) ms (by decide +kernel) (pa_cons (pe_ix ix_tup (pv 0) pe_int (fun _ _ => rfl)) pa_nil))
      (pe_op op_add_str (pe_op op_add_str (pe_callTy call_str_int (by rfl) ms (by decide +kernel) (pa_cons (pe_ix ix_tup (pv 0) pe_int (fun _ _ => rfl)) pa_nil)) pe_str) (pe_callTy call_str_int (by rfl) ms (by decide +kernel) (pa_cons (pe_ix ix_tup (pv 0) pe_int (fun _ _ => rfl)) pa_nil)))))), ?_⟩
    have l1 := iText_len z1
    have l2 := iText_len z2
    have h3 : ("/" : Str).length = 1 := by decide +kernel
    have sl : sizeLine = 16777216 := by decide
    refine ⟨_, rfl, a, _, _, _, rfl, rfl, SqT.of ha, rfl, rfl, _, rfl, ?_⟩
    refine ite2 (fun h1 => ?_) (fun h1 => ?_)
    · refine ⟨_, rfl, a, _, _, _, rfl, rfl, SqT.of ha, rfl, _, rfl, Nat.lt_trans z1 (by decide), ?_⟩
      have h1 := of_decide_eq_true h1
      injection h1 with h1
      rw [show wordOf t b = iText t from if_pos h1] at k
      exact k
    · refine ⟨_, rfl, a, _, _, _, rfl, rfl, SqT.of ha, rfl, _, rfl, Nat.lt_trans z1 (by decide), _, _, rfl, rfl, ?_, ?_⟩
      · show (iText t).length + ("/" : Str).length ≤ sizeLine
        omega
      refine ⟨_, rfl, a, _, _, _, rfl, rfl, SqT.of ha, rfl, _, rfl, Nat.lt_trans z2 (by decide), _, _, rfl, rfl, ?_, ?_⟩
      · show (iText t ++ ("/" : Str)).length + (iText b).length ≤ sizeLine
        rw [PySem.Str.length_append]
        omega
      · rw [show wordOf t b = iText t ++ ("/" : Str) ++ iText b from if_neg (fun z => h1 (decide_eq_true (by rw [z])))] at k
        exact k
def spText : Sp := fun vs H Q _ => ∃ (l : Addr) (xs : List V) (ps : List (Int × Int)), vs = [.ref l] ∧ H l = some (.lst xs) ∧ PairsAt H xs ps ∧ (∀ p ∈ ps, PartOk p) ∧ 0 < ps.length ∧ ps.length ≤ 100 ∧ ∀ H', Same H H' → Q (.str (lawText ps)) H'
theorem sc_text : FnScope ["_law_parts", "_law_found", "_law_k", "_law_top", "_law_bottom", "_law_amount"] ["_law_parts"] (defScope s_law_text) := ⟨rfl, rfl, rfl, by decide +kernel, rfl, by decide +kernel, by decide +kernel⟩
theorem ok_text {f fW : Addr} {fd fdW : FuncData} (F : FnP K "_law_text" "_law_text" s_law_text [] f fd) (W : FnOk P w K mg base CX0 1 fW fdW ["_law_part_here"] spWord) (FW : FnP K "_law_word" "_law_word" s_law_word [] fW fdW) (gW : mg "_law_word" = some (.ref fW))
    (ms : mg "str" = none) (ml : mg "len" = none) (ma : mg "abs" = none) (mr : mg "range" = none) : FnOk P w K mg base CX0 2 f fd ["_law_parts"] spText := by
  have bW : Binds K fdW ["_law_part_here"] [] := FW.bindsN fun _ _ _ _ _ _ us hl => match us, hl with | [_], _ => rfl
  refine F.ok sc_text (fun vs H Q E h => ?_) (fun cdv A outer s H vs Q E hr h => ?_)
  · obtain ⟨l, xs, ps, rfl, _⟩ := h
    rfl
  · obtain ⟨l, xs, ps, rfl, hl, hxs, hok, h0, hle, k⟩ := h
    refine ⟨_, PSs.nox (pss_cons (ps_set (i := 1) sc_text.nd rfl (.inl rfl) (pe_call W hr rfl gW FW.kp bW .nil pass0 (pa_cons (pe_ix ix_list (pv 0) pe_int (fun _ _ => rfl)) pa_nil)))
      (pss_cons (ps_for PassesOwn.never rfl (pi_range2 (by rfl) mr (pa_cons pe_int (pa_cons (pe_callB call_len_seq (by rfl) ml (by decide +kernel) (pa_cons (pv 0) pa_nil)) pa_nil))) (pg_name (i := 2) sc_text.nd rfl (.inl rfl))
        (pss_cons (ps_asg (pe_ix ix_list (pv 0) (pv 2) (fun _ _ => rfl)) (pg_tup rfl (pgs_cons (pg_name (i := 3) sc_text.nd rfl (.inl rfl)) (pgs_cons (pg_name (i := 4) sc_text.nd rfl (.inl rfl)) pgs_nil))))
        (pss_one (ps_if (pt_cmpR op_ne (pv 3) pe_int (nomark _))
          (pss_cons (ps_set (i := 5) sc_text.nd rfl (.inl rfl) (pe_ifExp (pt_cmpR (op_eqD hr.units) (pe_tup (pa_cons (pe_callB call_abs (by rfl) ma (by decide +kernel) (pa_cons (pv 3) pa_nil)) (pa_cons (pv 4) pa_nil))) (pe_tup (pa_cons pe_int (pa_cons pe_int pa_nil))) (nomark _)) pe_str
            (pe_op op_add_str (pe_call W hr rfl gW FW.kp bW .nil pass0 (pa_cons (pe_tup (pa_cons (pe_callB call_abs (by rfl) ma (by decide +kernel) (pa_cons (pv 3) pa_nil)) (pa_cons (pv 4) pa_nil))) pa_nil)) pe_str)))
          (pss_one (ps_set (i := 1) sc_text.nd rfl (.inl rfl) (pe_op op_add_str (pe_op op_add_str (pe_op op_add_str (pe_op op_add_str (pv 1) (pe_ifExp (pt_cmpR op_gt (pv 3) pe_int (nomark _)) pe_str pe_str)) (pv 5)) pe_str) (pe_callTy call_str_int (by rfl) ms (by decide +kernel) (pa_cons (pv 2) pa_nil)))))) pss_nil))))
      (pss_one (ps_ret (pv 1))))), ?_⟩
    have lx := hxs.len
    have sl : sizeLine = 16777216 := by decide
    have getx : ∀ i, i < ps.length → ∃ x, xs[i]? = some x ∧ PairAt H x (ps.getD i (0, 1)) ∧ PartOk (ps.getD i (0, 1)) := fun i hi => by
      have hx : xs[i]? = some xs[i] := List.getElem?_eq_getElem (by omega)
      obtain ⟨p, hp, hpa⟩ := hxs.get hx
      have e : ps.getD i (0, 1) = p := by simp [List.getD, hp]
      rw [e]
      exact ⟨_, hx, hpa, hok p (List.mem_of_getElem? hp)⟩
    obtain ⟨x0, hx0, hpa0, hok0⟩ := getx 0 h0
    have lg0 := hok0.log
    refine ⟨_, rfl, l, _, _, _, rfl, rfl, SqL.of hl, atI_nat hx0, x0, _, _, rfl, hpa0, Nat.lt_trans lg0.1 (by decide), Nat.lt_trans lg0.2 (by decide), ?_⟩
    refine ⟨_, rfl, l, _, rfl, .inl (SqL.of hl), 1, _, rfl, ⟨by decide, by decide, by omega, by omega⟩, for_range (lo := 1) (n := ((xs.length : Int) - 1).toNat) (fun i σ H2 => ∃ o2 o3 o4 o5, σ = [some (.ref l), some (.str (lawTextTo ps i)), o2, o3, o4, o5] ∧ Same H H2) ⟨_, _, _, _, rfl, Same.refl _⟩ ?_ ?_⟩
    · rintro i σ H2 hi ⟨o2, o3, o4, o5, rfl, sm⟩
      have hi' : i + 1 < ps.length := by omega
      obtain ⟨x, hx, hpa, hpo⟩ := getx (i + 1) hi'
      have ei : (1 : Int) + (i : Int) = ((i + 1 : Nat) : Int) := by omega
      have e1 : lawTextTo ps (i + 1) = lawStep (lawTextTo ps i) ((i : Int) + 1) (ps.getD (i + 1) (0, 1)) := rfl
      have len := lawTextTo_len hok i (by omega)
      generalize hpp : ps.getD (i + 1) (0, 1) = pp at hpa hpo e1
      obtain ⟨t, b⟩ := pp
      obtain ⟨lt, lb⟩ := hpo.log
      obtain ⟨a, rfl, ha⟩ := hpa.mono sm
      refine ⟨_, rfl, _, rfl, l, _, _, _, rfl, rfl, SqL.of (sm _ _ hl), (by rw [ei]; exact atI_nat hx), a, _, rfl, SqT.of ha, rfl, _, _, rfl, _, _, rfl, rfl, ?_⟩
      refine ⟨_, rfl, rfl, _, rfl, ?_⟩
      by_cases ht : t = 0
      · refine iteNS (by rw [ht]) ?_
        refine ⟨some (.int (1 + (i : Int))), some (.int t), some (.int b), o5, ?_, sm⟩
        rw [e1, show lawStep (lawTextTo ps i) ((i : Int) + 1) (t, b) = lawTextTo ps i from if_pos ht]
        rfl
      · refine iteNF (fun z => ht (by injection z)) ?_
        have ea : (if t < 0 then -t else t) = (t.natAbs : Int) := by split <;> omega
        refine ⟨_, rfl, _, rfl, _, rfl, (by show 2 ≤ sizeLine; decide), fun p1 h1 => ⟨(by show 2 ≤ sizeLine; decide), fun p2 h2 => ?_⟩⟩
        have s1 := same_new (o := .tup [.int (if t < 0 then -t else t), .int b]) (Same.refl H2) h1
        have s2 := same_new (o := .tup [.int 1, .int 1]) (Same.refl (upd H2 p1 (.tup [.int (if t < 0 then -t else t), .int b]))) h2
        refine ⟨.tuple [.int (if t < 0 then -t else t), .int b], .tuple [.int 1, .int 1], .tup (SqT.of (s2 _ _ upd_same)) (.cons (.int _) (.cons (.int _) .nil)), .tup (SqT.of upd_same) (.cons (.int _) (.cons (.int _) .nil)), rfl, rfl, _, rfl, ?_⟩
        have sm3 := sm.trans (s1.trans s2)
        have eqv1 : PyData.eqv (.tuple [.int (if t < 0 then -t else t), .int b]) (.tuple [.int 1, .int 1]) = decide ((t.natAbs : Int) = 1 ∧ b = 1) := by
          rw [ea]
          show (((t.natAbs : Int) == 1) && ((b == 1) && true)) = _
          rw [Bool.and_true, Bool.decide_and]
          rfl
        rw [eqv1]
        have lp : (" + " : Str).length = 3 := by decide +kernel
        have lm : (" - " : Str).length = 3 := by decide +kernel
        have ls : (" " : Str).length = 1 := by decide +kernel
        have l0 : ("" : Str).length = 0 := by decide +kernel
        have l1 : ("t" : Str).length = 1 := by decide +kernel
        have w1 := wordOf_len (t := (t.natAbs : Int)) (b := b) (by rw [Int.natAbs_natCast]; exact Nat.lt_trans lt (by decide)) (Nat.lt_trans lb (by decide))
        have hbi : ((i : Int) + 1).natAbs.log2 < 1900 := by
          have : ((i : Int) + 1).natAbs.log2 < 20 := (Nat.log2_lt (by omega)).mpr (by omega)
          omega
        have li := iText_len hbi
        have es : lawStep (lawTextTo ps i) ((i : Int) + 1) (t, b) = lawTextTo ps i ++ (if 0 < t then (" + " : Str) else (" - " : Str)) ++ (if (t.natAbs : Int) = 1 ∧ b = 1 then ("" : Str) else wordOf t.natAbs b ++ (" " : Str)) ++ ("t" : Str) ++ iText ((i : Int) + 1) := if_neg ht
        obtain ⟨am, ham⟩ : ∃ am : Str, am = (if (t.natAbs : Int) = 1 ∧ b = 1 then ("" : Str) else wordOf t.natAbs b ++ (" " : Str)) := ⟨_, rfl⟩
        obtain ⟨sg, hsg⟩ : ∃ sg : Str, sg = (if 0 < t then (" + " : Str) else (" - " : Str)) := ⟨_, rfl⟩
        have lam : am.length ≤ 4001 := by
          rw [ham]
          split
          · omega
          · rw [PySem.Str.length_append]; omega
        have lsg : sg.length = 3 := by rw [hsg]; split <;> assumption
        rw [← ham, ← hsg] at es
        refine ite2 (fun hq => ?_) (fun hq => ?_)
        have smX := sm3
        have e0 : V.str ("" : Str) = V.str am := by rw [ham, if_pos (of_decide_eq_true hq)]
        rw [e0]
        clear e0
        rotate_left
        have s3 : ∀ p3, (upd (upd H2 p1 (.tup [.int (if t < 0 then -t else t), .int b])) p2 (.tup [.int 1, .int 1])) p3 = none → Same (upd (upd H2 p1 (.tup [.int (if t < 0 then -t else t), .int b])) p2 (.tup [.int 1, .int 1])) (upd (upd (upd H2 p1 (.tup [.int (if t < 0 then -t else t), .int b])) p2 (.tup [.int 1, .int 1])) p3 (.tup [.int (if t < 0 then -t else t), .int b])) := fun p3 h3 => same_new (Same.refl _) h3
        refine ⟨_, rfl, _, rfl, _, rfl, (by show 2 ≤ sizeLine; decide), fun p3 h3 => ?_⟩
        have smX := sm3.trans (s3 p3 h3)
        refine ⟨_, (if t < 0 then -t else t), b, rfl, ⟨p3, rfl, upd_same⟩, (by rw [ea, Int.natAbs_natCast]; exact Nat.lt_trans lt (by decide)), Nat.lt_trans lb (by decide), _, _, rfl, rfl, (by rw [ea]; omega), ?_⟩
        have e0 : V.str (wordOf (if t < 0 then -t else t) b ++ (" " : Str)) = V.str am := by rw [ham, if_neg (fun z => hq (decide_eq_true z)), ea]
        rw [e0]
        clear e0
        all_goals
          refine ⟨_, rfl, _, rfl, _, _, rfl, rfl, _, rfl, ?_⟩
          refine ite2 (fun hp => ?_) (fun hp => ?_)
        have e3 : V.str (" + " : Str) = V.str sg := by rw [hsg, if_pos (of_decide_eq_true hp)]
        rw [e3]
        rotate_left
        have e3 : V.str (" - " : Str) = V.str sg := by rw [hsg, if_neg (fun z => hp (decide_eq_true z))]
        rw [e3]
        rotate_left
        have e3 : V.str (" + " : Str) = V.str sg := by rw [hsg, if_pos (of_decide_eq_true hp)]
        rw [e3]
        rotate_left
        have e3 : V.str (" - " : Str) = V.str sg := by rw [hsg, if_neg (fun z => hp (decide_eq_true z))]
        rw [e3]
        all_goals
          refine ⟨_, _, rfl, rfl, (by omega), _, rfl, _, _, rfl, rfl, (by rw [PySem.Str.length_append]; omega), _, _, rfl, rfl, (by rw [PySem.Str.length_append, PySem.Str.length_append]; omega), ?_⟩
          refine ⟨_, rfl, _, rfl, (by rw [show (1 : Int) + (i : Int) = (i : Int) + 1 by omega]; exact Nat.lt_trans hbi (by decide)), _, _, rfl, rfl, ?_, ?_⟩
          · rw [PySem.Str.length_append, PySem.Str.length_append, PySem.Str.length_append]
            show _ + (iText (1 + (i : Int))).length ≤ _
            rw [show (1 : Int) + (i : Int) = (i : Int) + 1 by omega]
            omega
          · refine ⟨some (.int (1 + (i : Int))), some (.int t), some (.int b), some (.str am), ?_, smX⟩
            rw [e1, es, ← show (1 : Int) + (i : Int) = (i : Int) + 1 by omega]
            rfl
    · rintro σ H2 ⟨o2, o3, o4, o5, rfl, sm⟩
      refine ⟨_, rfl, ?_⟩
      have e : ((xs.length : Int) - 1).toNat = ps.length - 1 := by omega
      rw [e]
      exact k H2 sm
end
end SP
set_option Elab.async false
set_option linter.all false
set_option maxRecDepth 100000
set_option maxHeartbeats 400000
namespace SP
open PySem PySem.Spec PyProof.Rows L2
def spForm (C CF : Addr) : Sp := fun vs H Q E => ∃ ws rest, vs = ws ++ rest ∧ ws.length = 2 ∧ rest.length ≤ sizeLine ∧ ∀ p, H p = none → spFoI C CF (ws ++ [V.ref p]) (upd H p (.tup rest)) Q E
theorem form_sp {C CF : Addr} {H : Hp} {y0 : V} {q0 : Rat} {rest : List V} {qs : List Rat} {Q : VK} {E : XK} (hy : NumAt C H y0 q0) (hr : NumsAt C H rest qs) (hl : rest.length ≤ 100) (k : ∀ v H', Same H H' → FoAt C CF H' v q0 qs → Q v H')
    (x dx : Addr) (hx : H x = none) (hdx : H dx = none) (hne : dx ≠ x) : spForm C CF (V.ref x :: (y0 :: rest)) (upd (upd H dx (.own x)) x (.ins CF dx [])) (fun v H2 => v = .non ∧ Q (.ref x) H2) E := by
  refine ⟨[V.ref x, y0], rest, rfl, rfl, Nat.le_trans hl (by decide), fun p hp => ?_⟩
  have sx : Same H (upd (upd H dx (.own x)) x (.ins CF dx [])) := fun b o e => by
    rw [upd_ne (ne_of_none e hx), upd_ne (ne_of_none e hdx)]
    exact e
  have sp : Same (upd (upd H dx (.own x)) x (.ins CF dx [])) (upd (upd (upd H dx (.own x)) x (.ins CF dx [])) p (.tup rest)) := same_new (Same.refl _) hp
  have sxp := sx.trans sp
  refine ⟨x, dx, p, y0, rest, q0, qs, rfl, sp _ _ upd_same, upd_same, hy.mono sxp, hr.mono sxp, by omega, fun c f ys H' h1 h2 h3 h4 h5 => ⟨rfl, ?_⟩⟩
  refine k _ H' (fun b o e => h1 b o (ne_of_none e hx) (sxp b o e)) ⟨x, dx, c, f, ys, rfl, h2, h3, h4, h5⟩
/-- Form(..) -/
structure FoMk (P : Program) (w : World) (K : PySem.W.Frag) (mg : Str → Option Value) (base : Heap) (C CF fI : Addr) : Prop where
  mks : Mk K CF fI
  ok : FnR P w K mg base CX0 5 fI (spForm C CF)
def qOf (p : Int × Int) : Rat := Rat.divInt p.1 p.2
theorem nums_of {C : Addr} {H : Hp} {ys : List V} {rs : List Rat} (h : NumsAt C H ys rs) : ys.length = rs.length := h.len
section
variable {P : Program} {w : World} {K : PySem.W.Frag} {mg : Str → Option Value} {base : Heap}
def spMade (C CF : Addr) : Sp := fun vs H Q _ => ∃ (l : Addr) (xs : List V) (p0 : Int × Int) (ps : List (Int × Int)), vs = [.ref l] ∧ H l = some (.lst xs) ∧ PairsAt H xs (p0 :: ps) ∧ (∀ p ∈ p0 :: ps, PartOk p) ∧ ps.length ≤ 4 ∧
  ∀ v H', Same H H' → FoAt C CF H' v (qOf p0) (ps.map qOf) → Q v H'
theorem sc_made : FnScope ["_law_parts", "_law_some", "_law_top", "_law_bottom"] ["_law_parts"] (defScope s_law_made) := ⟨rfl, rfl, rfl, by decide +kernel, rfl, by decide +kernel, by decide +kernel⟩
theorem ok_made {f C CF fI fF : Addr} {fd fdI : FuncData} (F : FnP K "_law_made" "_law_made" s_law_made [] f fd) (T : AmC K mg C) (TF : FoC K mg CF) (M : AmMk P w K mg base C fI fdI) (MF : FoMk P w K mg base C CF fF) (ml : mg "len" = none) : FnOk P w K mg base CX0 7 f fd ["_law_parts"] (spMade C CF) := by
  refine F.ok sc_made (fun vs H Q E h => ?_) (fun cdv A outer s H vs Q E hr h => ?_)
  · obtain ⟨l, xs, p0, ps, rfl, _⟩ := h
    rfl
  · obtain ⟨l, xs, p0, ps, rfl, hl, hxs, hok, hle, k⟩ := h
    refine ⟨_, PSs.nox (pss_cons (ps_setLc (i := 1) (own := [("_law_top", 2), ("_law_bottom", 3)]) (g := gTup K 2 (gCons (gName 2) (gCons (gName 3) gNil))) (tt := tYes) rfl sc_made.nd rfl rfl (sw_true rfl rfl rfl (by decide +kernel)) (pi_list (pv 0)) (blkOk_by (N := ["_law_parts", "_law_some", "_law_top", "_law_bottom"]) (sc := defScope s_law_made) (by decide +kernel))
        (fun _ _ _ _ _ => pg_tup rfl (pgs_cons (pg_name (i := 2) sc_made.nd rfl (.inl rfl)) (pgs_cons (pg_name (i := 3) sc_made.nd rfl (.inl rfl)) pgs_nil))) (fun _ _ _ _ _ => pts_nil)
        (fun _ _ _ _ _ => pe_ifExp (pt_cmpR op_eq (pv 3) pe_int (nomark _)) (pv 2) (pe_make M.mks M.ok (hr.mono (by decide)) rfl T.mgC M.b2 .nil pass0 (pa_cons (pv 2) (pa_cons (pv 3) pa_nil)))))
      (pss_cons (ps_if (pt_cmpR op_eq (pe_callB call_len_seq (by rfl) ml (by decide +kernel) (pa_cons (pv 1) pa_nil)) pe_int (nomark _)) (pss_one (ps_ret (StX.pe_makeR MF.mks MF.ok hr rfl TF.mgF pass0 (pa_cons (pe_ix ix_list (pv 1) pe_int (fun _ _ => rfl)) pa_nil)))) pss_nil)
      (pss_cons (ps_if (pt_cmpR op_eq (pe_callB call_len_seq (by rfl) ml (by decide +kernel) (pa_cons (pv 1) pa_nil)) pe_int (nomark _)) (pss_one (ps_ret (StX.pe_makeR MF.mks MF.ok hr rfl TF.mgF pass0 (pa_cons (pe_ix ix_list (pv 1) pe_int (fun _ _ => rfl)) (pa_cons (pe_ix ix_list (pv 1) pe_int (fun _ _ => rfl)) pa_nil))))) pss_nil)
      (pss_cons (ps_if (pt_cmpR op_eq (pe_callB call_len_seq (by rfl) ml (by decide +kernel) (pa_cons (pv 1) pa_nil)) pe_int (nomark _)) (pss_one (ps_ret (StX.pe_makeR MF.mks MF.ok hr rfl TF.mgF pass0 (pa_cons (pe_ix ix_list (pv 1) pe_int (fun _ _ => rfl)) (pa_cons (pe_ix ix_list (pv 1) pe_int (fun _ _ => rfl)) (pa_cons (pe_ix ix_list (pv 1) pe_int (fun _ _ => rfl)) pa_nil)))))) pss_nil)
      (pss_cons (ps_if (pt_cmpR op_eq (pe_callB call_len_seq (by rfl) ml (by decide +kernel) (pa_cons (pv 1) pa_nil)) pe_int (nomark _)) (pss_one (ps_ret (StX.pe_makeR MF.mks MF.ok hr rfl TF.mgF pass0 (pa_cons (pe_ix ix_list (pv 1) pe_int (fun _ _ => rfl)) (pa_cons (pe_ix ix_list (pv 1) pe_int (fun _ _ => rfl)) (pa_cons (pe_ix ix_list (pv 1) pe_int (fun _ _ => rfl)) (pa_cons (pe_ix ix_list (pv 1) pe_int (fun _ _ => rfl)) pa_nil))))))) pss_nil)
      (pss_one (ps_ret (StX.pe_makeR MF.mks MF.ok hr rfl TF.mgF pass0 (pa_cons (pe_ix ix_list (pv 1) pe_int (fun _ _ => rfl)) (pa_cons (pe_ix ix_list (pv 1) pe_int (fun _ _ => rfl)) (pa_cons (pe_ix ix_list (pv 1) pe_int (fun _ _ => rfl)) (pa_cons (pe_ix ix_list (pv 1) pe_int (fun _ _ => rfl)) (pa_cons (pe_ix ix_list (pv 1) pe_int (fun _ _ => rfl)) pa_nil))))))))))))), ?_⟩
    refine ⟨_, rfl, l, rfl, ⟨_, SqL.of hl⟩, fun D hD => ?_⟩
    have nlD : l ≠ D := ne_of_none hl hD
    refine lc_list (K := K) (a := l) (xs := xs) (fun i H3 => ∃ acc, H3 D = some (.lst acc) ∧ Same H H3 ∧ NumsAt C H3 acc (((p0 :: ps).take i).map qOf) ∧ acc.length = i) ⟨[], upd_same, same_new (Same.refl _) hD, .nil, rfl⟩ (fun i H3 _ ⟨_, _, s3, _⟩ => SqL.of (s3 _ _ hl)) ?_ ?_
    · rintro i y H3 hy ⟨acc, hacc, s3, nm, la⟩
      obtain ⟨p, hpi, hpa⟩ := hxs.get hy
      have hpo := hok p (List.mem_of_getElem? hpi)
      have hi : i < (p0 :: ps).length := (List.getElem?_eq_some_iff.mp hpi).1
      have hi2 : i < 5 := by simp at hi; omega
      obtain ⟨a, rfl, ha⟩ := hpa.mono s3
      refine ⟨a, _, rfl, SqT.of ha, rfl, _, _, rfl, _, _, rfl, rfl, rfl, ?_⟩
      have fin : ∀ v H4, Same H3 H4 → NumAt C H4 v (qOf p) → ∃ acc', H4 D = some (.lst acc') ∧ acc'.length < sizeLine ∧ ∃ acc2, (upd H4 D (.lst (acc' ++ [v]))) D = some (.lst acc2) ∧ Same H (upd H4 D (.lst (acc' ++ [v]))) ∧ NumsAt C (upd H4 D (.lst (acc' ++ [v]))) acc2 (((p0 :: ps).take (i + 1)).map qOf) ∧ acc2.length = i + 1 := fun v H4 e4 hv4 => by
        have hacc4 := e4 _ _ hacc
        refine ⟨acc, hacc4, small1000 (by omega), acc ++ [v], upd_same, same_new (s3.trans e4) hD, ?_, by simp [la]⟩
        rw [← take_snoc hpi, List.map_append]
        have snoc : ∀ {vs : List V} {rs : List Rat} {v : V} {q : Rat}, NumsAt C H4 vs rs → NumAt C H4 v q → NumsAt C H4 (vs ++ [v]) (rs ++ [q]) := fun {vs rs v q} h hv => by
          induction h with
          | nil => exact .cons hv .nil
          | cons h _ ih => exact .cons h ih
        refine (snoc (nm.mono e4) hv4).imp fun v q h => h.elim .inl fun h => .inr (h.lst hacc4)
      refine ⟨_, rfl, rfl, _, rfl, ?_⟩
      refine ite2 (fun h1 => ?_) (fun h1 => ?_)
      · have h1 := of_decide_eq_true h1
        injection h1 with h1
        refine ⟨_, rfl, fin _ _ (Same.refl _) (.inl ⟨p.1, rfl, ?_⟩)⟩
        unfold qOf
        rw [h1, divInt_one]
      · have hb : p.2 ≠ 0 := by have := hpo.b0; omega
        refine ⟨_, rfl, _, rfl, fun x dx hx hdx hne => ⟨x, dx, _, _, rfl, upd_same, hb, bits_small (by have := hpo.b0; omega) (by have := hpo.b3; omega), fun H' h2 h3 => ⟨rfl, ?_⟩⟩⟩
        exact fin _ _ (mk_same hx hdx h2) (.inr ⟨x, dx, rfl, h3⟩)
    · rintro H3 ⟨acc, hacc, s3, nm, la⟩
      rw [hxs.len, List.take_length] at nm
      cases nm with
      | @cons y0 _ rest _ hy hrest =>
      have hlr : rest.length ≤ 100 := by have := hrest.len; rw [List.length_map] at this; omega
      have kk := form_sp (CF := CF) (Q := Q) (E := E0) hy hrest hlr (fun v H' e h => k v H' (s3.trans e) h)
      clear k hok hxs la
      have ne : ∀ {m n : Int}, m ≠ n → ¬ (V.int m = V.int n) := fun h z => h (by injection z)
      cases ps with
      | nil =>
        cases hrest
        refine ⟨_, rfl, D, _, rfl, .inl (SqL.of hacc), rfl, _, rfl, iteDT rfl ?_⟩
        exact ⟨_, rfl, D, _, _, _, rfl, rfl, SqL.of hacc, rfl, kk⟩
      | cons p1 ps1 =>
        cases hrest with
        | @cons y1 _ rest1 _ hy1 hr1 =>
        cases ps1 with
        | nil =>
          cases hr1
          refine ⟨_, rfl, D, _, rfl, .inl (SqL.of hacc), rfl, _, rfl, iteDF (ne (by simp only [List.length_cons, List.length_nil]; decide)) ?_⟩
          refine ⟨_, rfl, D, _, rfl, .inl (SqL.of hacc), rfl, _, rfl, iteDT rfl ?_⟩
          exact ⟨_, rfl, D, _, _, _, rfl, rfl, SqL.of hacc, rfl, _, rfl, D, _, _, _, rfl, rfl, SqL.of hacc, rfl, kk⟩
        | cons p2 ps2 =>
          cases hr1 with
          | @cons y2 _ rest2 _ hy2 hr2 =>
          cases ps2 with
          | nil =>
            cases hr2
            refine ⟨_, rfl, D, _, rfl, .inl (SqL.of hacc), rfl, _, rfl, iteDF (ne (by simp only [List.length_cons, List.length_nil]; decide)) ?_⟩
            refine ⟨_, rfl, D, _, rfl, .inl (SqL.of hacc), rfl, _, rfl, iteDF (ne (by simp only [List.length_cons, List.length_nil]; decide)) ?_⟩
            refine ⟨_, rfl, D, _, rfl, .inl (SqL.of hacc), rfl, _, rfl, iteDT rfl ?_⟩
            exact ⟨_, rfl, D, _, _, _, rfl, rfl, SqL.of hacc, rfl, _, rfl, D, _, _, _, rfl, rfl, SqL.of hacc, rfl, _, rfl, D, _, _, _, rfl, rfl, SqL.of hacc, rfl, kk⟩
          | cons p3 ps3 =>
            cases hr2 with
            | @cons y3 _ rest3 _ hy3 hr3 =>
            cases ps3 with
            | nil =>
              cases hr3
              refine ⟨_, rfl, D, _, rfl, .inl (SqL.of hacc), rfl, _, rfl, iteDF (ne (by simp only [List.length_cons, List.length_nil]; decide)) ?_⟩
              refine ⟨_, rfl, D, _, rfl, .inl (SqL.of hacc), rfl, _, rfl, iteDF (ne (by simp only [List.length_cons, List.length_nil]; decide)) ?_⟩
              refine ⟨_, rfl, D, _, rfl, .inl (SqL.of hacc), rfl, _, rfl, iteDF (ne (by simp only [List.length_cons, List.length_nil]; decide)) ?_⟩
              refine ⟨_, rfl, D, _, rfl, .inl (SqL.of hacc), rfl, _, rfl, iteDT rfl ?_⟩
              exact ⟨_, rfl, D, _, _, _, rfl, rfl, SqL.of hacc, rfl, _, rfl, D, _, _, _, rfl, rfl, SqL.of hacc, rfl, _, rfl, D, _, _, _, rfl, rfl, SqL.of hacc, rfl, _, rfl, D, _, _, _, rfl, rfl, SqL.of hacc, rfl, kk⟩
            | cons p4 ps4 =>
              cases hr3 with
              | @cons y4 _ rest4 _ hy4 hr4 =>
              cases ps4 with
              | nil =>
                cases hr4
                refine ⟨_, rfl, D, _, rfl, .inl (SqL.of hacc), rfl, _, rfl, iteDF (ne (by simp only [List.length_cons, List.length_nil]; decide)) ?_⟩
                refine ⟨_, rfl, D, _, rfl, .inl (SqL.of hacc), rfl, _, rfl, iteDF (ne (by simp only [List.length_cons, List.length_nil]; decide)) ?_⟩
                refine ⟨_, rfl, D, _, rfl, .inl (SqL.of hacc), rfl, _, rfl, iteDF (ne (by simp only [List.length_cons, List.length_nil]; decide)) ?_⟩
                refine ⟨_, rfl, D, _, rfl, .inl (SqL.of hacc), rfl, _, rfl, iteDF (ne (by simp only [List.length_cons, List.length_nil]; decide)) ?_⟩
                exact ⟨_, rfl, D, _, _, _, rfl, rfl, SqL.of hacc, rfl, _, rfl, D, _, _, _, rfl, rfl, SqL.of hacc, rfl, _, rfl, D, _, _, _, rfl, rfl, SqL.of hacc, rfl, _, rfl, D, _, _, _, rfl, rfl, SqL.of hacc, rfl, _, rfl, D, _, _, _, rfl, rfl, SqL.of hacc, rfl, kk⟩
              | cons p5 ps5 => exact absurd hle (by simp)
end
end SP
set_option Elab.async false
set_option linter.all false
set_option maxRecDepth 100000
set_option maxHeartbeats 400000
namespace SP
open PySem PySem.Spec PyProof.Rows L2
section
variable {P : Program} {w : World} {K : PySem.W.Frag} {mg : Str → Option Value} {base : Heap}
def spNear : Sp := fun vs H Q _ => ∃ (pen l : Addr) (xs : List V) (ps : List (Int × Int)) (n : Nat), vs = [.ref pen, .ref l] ∧ PenAt H pen n ∧ n < 800000 ∧ H l = some (.lst xs) ∧ l ≠ pen ∧ PairsAt H xs ps ∧ 0 < ps.length ∧ ps.length ≤ 5 ∧
  ∀ m ys i p H', PartOk p → H m = none → H' m = some (.lst ys) → PairsAt H' ys (ps.set i p) → PenAt H' pen (n + 3) → FrP pen H H' → Q (.ref m) H'
theorem sc_near : FnScope ["_law_pen_here", "_law_parts", "_law_found", "_law_at"] ["_law_pen_here", "_law_parts"] (defScope s_law_near) := ⟨rfl, rfl, rfl, by decide +kernel, rfl, by decide +kernel, by decide +kernel⟩
theorem ixN_of {n : Nat} {d : Int} (h0 : 0 ≤ d) (h1 : d < n) : ixN n d = some d.toNat := by
  unfold ixN
  rw [if_pos h0, if_pos h1]
theorem ok_near {f fD fP : Addr} {fd fdD fdP : FuncData} (F : FnP K "_law_near" "_law_near" s_law_near [] f fd) (D : FnOk P w K mg base CX0 1 fD fdD ["_law_pen_here", "_law_many"] spDraw) (FD : FnP K "_law_draw" "_law_draw" s_law_draw [] fD fdD) (gD : mg "_law_draw" = some (.ref fD))
    (PT : FnOk P w K mg base CX0 3 fP fdP ["_law_pen_here"] spPart) (FP : FnP K "_law_part" "_law_part" s_law_part [] fP fdP) (gP : mg "_law_part" = some (.ref fP)) (ml : mg "len" = none) (mL : mg "list" = none) : FnOk P w K mg base CX0 4 f fd ["_law_pen_here", "_law_parts"] spNear := by
  have bD : Binds K fdD ["_law_pen_here", "_law_many"] [] := FD.bindsN fun _ _ _ _ _ _ us hl => match us, hl with | [_, _], _ => rfl
  have bP : Binds K fdP ["_law_pen_here"] [] := FP.bindsN fun _ _ _ _ _ _ us hl => match us, hl with | [_], _ => rfl
  refine F.ok sc_near (fun vs H Q E h => ?_) (fun cdv A outer s H vs Q E hr h => ?_)
  · obtain ⟨pen, l, xs, ps, n, rfl, _⟩ := h
    rfl
  · obtain ⟨pen, l, xs, ps, n, rfl, hp, hn, hl, hne, hxs, h0, h5, k⟩ := h
    refine ⟨_, PSs.nox (pss_cons (ps_par (i := 2) (j := 3) (by rfl) sc_near.nd rfl rfl (by decide) rfl rfl (pa_cons (pe_callTy call_list_of (by rfl) mL (by decide +kernel) (pa_cons (pv 1) pa_nil)) (pa_cons (pe_call D (hr.mono (by decide)) rfl gD FD.kp bD .nil pass0 (pa_cons (pv 0) (pa_cons (pe_callB call_len_seq (by rfl) ml (by decide +kernel) (pa_cons (pv 1) pa_nil)) pa_nil))) pa_nil)) (by rfl))
      (pss_cons (ps_asg (pe_call PT hr rfl gP FP.kp bP .nil pass0 (pa_cons (pv 0) pa_nil)) (pg_sub (pv 2) (pv 3) set_list))
      (pss_one (ps_ret (pv 2))))), ?_⟩
    have lx := hxs.len
    refine ⟨_, rfl, l, _, rfl, .inl (SqL.of hl), fun m hm => ?_⟩
    have s0 : Same H (upd H m (.lst xs)) := same_new (Same.refl _) hm
    have hm0 : (upd H m (.lst xs)) m = some (.lst xs) := upd_same
    have hp0 := hp.same s0
    obtain ⟨_, _, _, _, hpx, _⟩ := hp.ex
    have nmp : m ≠ pen := (ne_of_none hpx hm).symm
    generalize upd H m (.lst xs) = H0 at s0 hm0 hp0 ⊢
    refine ⟨_, rfl, _, rfl, l, _, rfl, .inl (SqL.of (s0 _ _ hl)), pen, _, n, rfl, hp0, by omega, by omega, bits_small (by omega) (by omega), fun d H1 d0 d1 hp1 fr1 => ⟨_, _, rfl, ?_⟩⟩
    refine ⟨_, rfl, pen, n + 1, rfl, hp1, by omega, fun v p H2 pok pa hp2 fr2 => ?_⟩
    have fr12 := (frp_of s0).trans (fr1.trans fr2)
    have hm2 := fr2.1 _ _ nmp (fr1.1 _ _ nmp hm0)
    refine ⟨_, rfl, _, rfl, m, _, _, d.toNat, rfl, rfl, hm2, ixN_of d0 d1, ?_⟩
    refine ⟨_, rfl, ?_⟩
    have px2 : PairsAt H2 xs ps := ((hxs.mono s0).frp hp0 fr1).frp hp1 fr2
    refine k m _ d.toNat p _ pok hm upd_same ?_ (PenAt.upd hp hm fr12 hp2) ?_
    · exact (px2.set pa d.toNat).imp fun v p h => h.lst hm2
    · refine ⟨fun b o hb ho => ?_, fun c k r h => ?_⟩
      · rw [upd_ne (ne_of_none ho hm)]
        exact fr12.1 _ _ hb ho
      · obtain ⟨k', r', e⟩ := fr12.2 _ _ _ h
        exact ⟨k', r', by rw [upd_ne nmp.symm]; exact e⟩
end
/-! ### the two texts are one -/
theorem qOf_num {p : Int × Int} (h : PartOk p) : (qOf p).num = p.1 ∧ ((qOf p).den : Int) = p.2 := ⟨h.num, h.den⟩
theorem qOf_inj {p r : Int × Int} (h : PartOk p) (h' : PartOk r) (e : qOf p = qOf r) : p = r := by
  obtain ⟨a, b⟩ := qOf_num h
  obtain ⟨c, d⟩ := qOf_num h'
  rw [e] at a b
  exact Prod.ext (a.symm.trans c) (b.symm.trans d)
theorem amText_qOf {p : Int × Int} (h : PartOk p) : amText (qOf p) = wordOf p.1 p.2 := by
  obtain ⟨a, b⟩ := qOf_num h
  unfold amText wordOf
  rw [a, b]
  by_cases e : p.2 = 1
  · rw [if_pos e, if_pos (by omega)]
  · rw [if_neg e, if_neg (by omega)]
theorem amText_abs {p : Int × Int} (h : PartOk p) : amText (absQ (qOf p)) = wordOf p.1.natAbs p.2 := by
  obtain ⟨a, b⟩ := qOf_num h
  obtain ⟨c, d⟩ := absQ_num (qOf p)
  unfold amText wordOf
  rw [c, d, a, b]
  by_cases e : p.2 = 1
  · rw [if_pos e, if_pos (by omega)]
  · rw [if_neg e, if_neg (by omega)]
theorem qOf_zero {p : Int × Int} (h : PartOk p) : qOf p = 0 ↔ p.1 = 0 := by
  obtain ⟨a, b⟩ := qOf_num h
  rw [← Rat.num_eq_zero, a]
theorem qOf_pos {p : Int × Int} (h : PartOk p) : 0 < qOf p ↔ 0 < p.1 := by
  obtain ⟨a, b⟩ := qOf_num h
  rw [Rat.lt_iff]
  rw [a]
  have : (qOf p).den ≠ 0 := (qOf p).den_nz
  simp
theorem absQ_one {p : Int × Int} (h : PartOk p) : absQ (qOf p) = 1 ↔ ((p.1.natAbs : Int) = 1 ∧ p.2 = 1) := by
  obtain ⟨a, b⟩ := qOf_num h
  obtain ⟨c, d⟩ := absQ_num (qOf p)
  constructor
  · intro e
    rw [e] at c d
    rw [a] at c
    have h1 : (1 : Rat).num = 1 := rfl
    have h2 : (1 : Rat).den = 1 := rfl
    rw [h1] at c
    rw [h2] at d
    exact ⟨c.symm, by omega⟩
  · rintro ⟨e1, e2⟩
    refine Rat.ext ?_ ?_
    · rw [c, a, e1]; rfl
    · rw [d]
      have h2 : (1 : Rat).den = 1 := rfl
      rw [h2]; omega
end SP
set_option Elab.async false
set_option linter.all false
set_option maxRecDepth 100000
set_option maxHeartbeats 400000
namespace SP
open PySem PySem.Spec PyProof.Rows L2
def glue (acc : Str) (w : Str) : Str := acc ++ (" " : Str) ++ w
theorem join_glue (a : Str) (ws : List Str) : Txt.join (" " : Str) (a :: ws) = ws.foldl glue a := by
  rw [show Txt.join (" " : Str) (a :: ws) = Str.join (" " : Str) (a :: ws) from TL.join_eq _ _]
  induction ws generalizing a with
  | nil => rfl
  | cons b r ih =>
    rw [List.foldl_cons, ← ih]
    show Str.join (" " : Str) (a :: b :: r) = Str.join (" " : Str) (glue a b :: r)
    unfold glue
    rw [PySem.StrLaws.join_shift]
    first | rfl | (simp [Str.join, PySem.Str.append_assoc])
theorem plus3 : (" + " : Str) = (" " : Str) ++ ("+" : Str) ++ (" " : Str) := by decide +kernel
theorem minus3 : (" - " : Str) = (" " : Str) ++ ("-" : Str) ++ (" " : Str) := by decide +kernel
theorem empty0 : ("" : Str) = Str.empty := by decide +kernel
theorem step_glue {p : Int × Int} (h : PartOk p) (acc : Str) (j : Nat) : (wordsAt j (qOf p)).foldl glue acc = lawStep acc ((j : Int) + 1) p := by
  unfold wordsAt lawStep
  by_cases h0 : p.1 = 0
  · rw [if_pos h0, if_pos ((qOf_zero h).mpr h0)]
    rfl
  · rw [if_neg h0, if_neg (fun z => h0 ((qOf_zero h).mp z))]
    have sg : (if 0 < qOf p then ("+" : Str) else ("-" : Str)) = (if 0 < p.1 then ("+" : Str) else ("-" : Str)) := by
      by_cases hp : 0 < p.1
      · rw [if_pos hp, if_pos ((qOf_pos h).mpr hp)]
      · rw [if_neg hp, if_neg (fun z => hp ((qOf_pos h).mp z))]
    have sg2 : (if 0 < p.1 then (" + " : Str) else (" - " : Str)) = (" " : Str) ++ (if 0 < p.1 then ("+" : Str) else ("-" : Str)) ++ (" " : Str) := by
      split
      · exact plus3
      · exact minus3
    rw [sg, sg2]
    generalize (if 0 < p.1 then ("+" : Str) else ("-" : Str)) = g
    by_cases h1 : (p.1.natAbs : Int) = 1 ∧ p.2 = 1
    · rw [if_pos h1, if_pos ((absQ_one h).mpr h1)]
      show glue (glue acc g) (("t" : Str) ++ iText ((j : Int) + 1)) = _
      unfold glue
      rw [empty0, PySem.Str.append_empty]
      simp only [PySem.Str.append_assoc]
    · rw [if_neg h1, if_neg (fun z => h1 ((absQ_one h).mp z)), amText_abs h]
      show glue (glue (glue acc g) (wordOf p.1.natAbs p.2)) (("t" : Str) ++ iText ((j : Int) + 1)) = _
      unfold glue
      simp only [PySem.Str.append_assoc]
theorem text_same {p0 : Int × Int} {ps : List (Int × Int)} (h : ∀ p ∈ p0 :: ps, PartOk p) : foText (qOf p0) (ps.map qOf) = lawText (p0 :: ps) := by
  unfold foText lawText
  rw [join_glue]
  have key : ∀ i, i ≤ ps.length → (wds (ps.map qOf) i).foldl glue (amText (qOf p0)) = lawTextTo (p0 :: ps) i := fun i => by
    induction i with
    | zero =>
      intro _
      rw [amText_qOf (h p0 (by simp))]
      rfl
    | succ i ih =>
      intro hi
      have hx : ps[i]? = some ps[i] := List.getElem?_eq_getElem (by omega)
      have hq : (ps.map qOf)[i]? = some (qOf ps[i]) := by rw [List.getElem?_map, hx]; rfl
      rw [wds_succ hq, List.foldl_append, ih (by omega), step_glue (h ps[i] (by simp))]
      show _ = lawStep (lawTextTo (p0 :: ps) i) ((i : Int) + 1) ((p0 :: ps).getD (i + 1) (0, 1))
      have e : (p0 :: ps).getD (i + 1) (0, 1) = ps[i] := by simp [List.getD, hx]
      rw [e]
  rw [List.length_map]
  exact key ps.length (Nat.le_refl _)
end SP
set_option Elab.async false
set_option linter.all false
set_option maxRecDepth 100000
set_option maxHeartbeats 400000
namespace SP
open PySem PySem.Spec PyProof.Rows L2
/-- a def of the module as it is called -/
structure Gf (P : Program) (w : World) (K : PySem.W.Frag) (mg : Str → Option Value) (base : Heap) (x : Str) (n : Nat) (ps : List Str) (sp : Sp) (f : Addr) (fd : FuncData) : Prop where
  ok : FnOk P w K mg base CX0 n f fd ps sp
  b : Binds K fd ps []
  g : mg x = some (.ref f)
  kp : PySem.W.keepIn K (.ref f) = true
/-- more of the text of Form -/
structure SgF (K : PySem.W.Frag) (C CF : Addr) : Prop where
  ne : PySem.W.findIn K (.ref CF) "__ne__" = some (some (.builtin "object.__ne__"))
  nfN : PySem.W.notFirst K CF (.type "NoneType") = true
  nfI : PySem.W.notFirst K CF (.type "int") = true
  nfS : PySem.W.notFirst K CF (.type "str") = true
  nfL : PySem.W.notFirst K CF (.type "list") = true
  nfT : PySem.W.notFirst K CF (.type "tuple") = true
  nfA : PySem.W.notFirst K CF (.ref C) = true
  kN : PySem.W.kitOne K (.type "NoneType") (.ref CF) = some false
  kI : PySem.W.kitOne K (.type "int") (.ref CF) = some false
  kS : PySem.W.kitOne K (.type "str") (.ref CF) = some false
  kL : PySem.W.kitOne K (.type "list") (.ref CF) = some false
  kT : PySem.W.kitOne K (.type "tuple") (.ref CF) = some false
  kA : PySem.W.kitOne K (.ref C) (.ref CF) = some false
structure Fre (mg : Str → Option Value) : Prop where
  range : mg "range" = none
  len : mg "len" = none
  str : mg "str" = none
  list : mg "list" = none
/-! ### lists of pairs -/
def OkL (ps : List (Int × Int)) : Prop := (∀ p ∈ ps, PartOk p) ∧ 0 < ps.length ∧ ps.length ≤ 5
def LA (pen : Addr) (H : Hp) (v : V) (ps : List (Int × Int)) : Prop := ∃ m xs, v = .ref m ∧ m ≠ pen ∧ H m = some (.lst xs) ∧ PairsAt H xs ps ∧ OkL ps
theorem LA.same {pen : Addr} {H H' : Hp} {v : V} {ps : List (Int × Int)} (h : LA pen H v ps) (e : Same H H') : LA pen H' v ps := by
  obtain ⟨m, xs, rfl, h1, h2, h3, h4⟩ := h
  exact ⟨m, xs, rfl, h1, e _ _ h2, h3.mono e, h4⟩
theorem LA.frp {pen : Addr} {H H' : Hp} {v : V} {ps : List (Int × Int)} {n : Nat} (h : LA pen H v ps) (hp : PenAt H pen n) (e : FrP pen H H') : LA pen H' v ps := by
  obtain ⟨m, xs, rfl, h1, h2, h3, h4⟩ := h
  exact ⟨m, xs, rfl, h1, e.1 _ _ h1 h2, h3.frp hp e, h4⟩
inductive LAs (pen : Addr) (H : Hp) : List V → List (List (Int × Int)) → Prop
  | nil : LAs pen H [] []
  | cons {v : V} {p : List (Int × Int)} {vs : List V} {ps : List (List (Int × Int))} : LA pen H v p → LAs pen H vs ps → LAs pen H (v :: vs) (p :: ps)
theorem LAs.imp {pen : Addr} {H H' : Hp} {vs : List V} {ps : List (List (Int × Int))} (h : LAs pen H vs ps) (k : ∀ v p, LA pen H v p → LA pen H' v p) : LAs pen H' vs ps := by
  induction h with
  | nil => exact .nil
  | cons h _ ih => exact .cons (k _ _ h) ih
theorem LAs.get {pen : Addr} {H : Hp} {vs : List V} {ps : List (List (Int × Int))} (h : LAs pen H vs ps) {i : Nat} {v : V} (e : vs[i]? = some v) : ∃ p, LA pen H v p := by
  induction h generalizing i with
  | nil => simp at e
  | cons h _ ih =>
    cases i with
    | zero => simp at e; subst e; exact ⟨_, h⟩
    | succ i => exact ih (i := i) (by simpa using e)
theorem LAs.cut {pen : Addr} {H : Hp} {vs : List V} {ps : List (List (Int × Int))} (h : LAs pen H vs ps) (lo hi : Option Int) : ∃ ps', LAs pen H (cutV vs lo hi) ps' := by
  have key : ∀ l : List V, (∀ v ∈ l, ∃ p, LA pen H v p) → ∃ ps', LAs pen H l ps' := fun l => by
    induction l with
    | nil => exact fun _ => ⟨[], .nil⟩
    | cons a r ih =>
      intro hl
      obtain ⟨p, hp⟩ := hl a (by simp)
      obtain ⟨ps', h'⟩ := ih fun v hv => hl v (by simp [hv])
      exact ⟨_, .cons hp h'⟩
  refine key _ fun v hv => ?_
  unfold cutV at hv
  have h1 := List.mem_of_mem_drop (List.mem_of_mem_take hv)
  obtain ⟨i, hi, e⟩ := List.getElem_of_mem h1
  exact h.get (i := i) (by rw [List.getElem?_eq_getElem hi, e])
/-! ### == of lists of pairs -/
def pdP (p : Int × Int) : PyData := .tuple [.int p.1, .int p.2]
theorem dp_pairs {K : PySem.W.Frag} {H : Hp} {xs : List V} {ps : List (Int × Int)} (h : PairsAt H xs ps) : DpAll K H xs (ps.map pdP) := by
  induction h with
  | nil => exact .nil
  | cons h _ ih =>
    obtain ⟨a, rfl, ha⟩ := h
    exact .cons (.tup (SqT.of ha) (.cons (.int _) (.cons (.int _) .nil))) ih
theorem shaped_pairs (ps : List (Int × Int)) : SeqAt.shaped (.list (ps.map pdP)) = true := by
  have h : ∀ l : List (Int × Int), PyData.canLayAll0 (l.map pdP) = true := fun l => by
    induction l with
    | nil => rfl
    | cons a r ih => simpa [PyData.canLayAll0, PyData.canLay0, pdP] using ih
  have h2 : ∀ l : List (Int × Int), PyData.depthAll (l.map pdP) ≤ 3 := fun l => by
    induction l with
    | nil => exact Nat.zero_le _
    | cons a r ih => simp [PyData.depthAll, PyData.depth, pdP]; omega
  unfold SeqAt.shaped
  rw [show (PyData.list (ps.map pdP)).canLay0 = true by simpa [PyData.canLay0] using h ps]
  rw [Bool.true_and]
  refine decide_eq_true ?_
  have := h2 ps
  simp [PyData.depth]
  omega
theorem eqv_pairs (ps rs : List (Int × Int)) : PyData.eqv (.list (ps.map pdP)) (.list (rs.map pdP)) = decide (ps = rs) := by
  show PyData.eqvAll (ps.map pdP) (rs.map pdP) = _
  induction ps generalizing rs with
  | nil => cases rs <;> rfl
  | cons p r ih =>
    cases rs with
    | nil => rfl
    | cons p2 r2 =>
      show (((p.1 == p2.1) && ((p.2 == p2.2) && true)) && PyData.eqvAll (r.map pdP) (r2.map pdP)) = _
      rw [ih, Bool.and_true]
      by_cases e : p = p2
      · subst e
        simp
      · have : decide (p :: r = p2 :: r2) = false := decide_eq_false fun z => e (by injection z)
        rw [this]
        by_cases e1 : p.1 = p2.1
        · have e2 : ¬ p.2 = p2.2 := fun z => e (Prod.ext e1 z)
          simp [e2]
        · simp [e1]
/-- the forms are equal just where the parts are -/
theorem form_eq {p0 r0 : Int × Int} {ps rs : List (Int × Int)} (h : ∀ p ∈ p0 :: ps, PartOk p) (h' : ∀ p ∈ r0 :: rs, PartOk p) : decide ((some (qOf r0, rs.map qOf) : Option (Rat × List Rat)) = some (qOf p0, ps.map qOf)) = decide (p0 :: ps = r0 :: rs) := by
  refine decide_eq_decide.mpr ⟨fun z => ?_, fun z => ?_⟩
  · injection z with z
    injection z with z1 z2
    have e0 := qOf_inj (h' r0 (by simp)) (h p0 (by simp)) z1
    have key : ∀ (l m : List (Int × Int)), (∀ p ∈ l, PartOk p) → (∀ p ∈ m, PartOk p) → m.map qOf = l.map qOf → l = m := fun l => by
      induction l with
      | nil => intro m _ _ e; cases m with
        | nil => rfl
        | cons a r => cases e
      | cons a r ih =>
        intro m h1 h2 e
        cases m with
        | nil => cases e
        | cons b t =>
          rw [List.map_cons, List.map_cons] at e
          injection e with e1 e2
          rw [qOf_inj (h2 b (by simp)) (h1 a (by simp)) e1, ih t (fun p hp => h1 p (by simp [hp])) (fun p hp => h2 p (by simp [hp])) e2]
    rw [e0, key ps rs (fun p hp => h p (by simp [hp])) (fun p hp => h' p (by simp [hp])) z2]
  · injection z with z1 z2
    rw [z1, z2]
theorem told1 : foText 0 [] = ("0" : Str) := by decide +kernel
theorem told2 : foText ((-15 : Int) : Rat) [((2 : Int) : Rat), ((-2 : Int) : Rat)] = ("-15 + 2 t1 - 2 t2" : Str) := by decide +kernel
theorem told3 : foText ((0 : Int) : Rat) [((0 : Int) : Rat), ((1 : Int) : Rat), Rat.divInt (-1) 2] = ("0 + t2 - 1/2 t3" : Str) := by decide +kernel
end SP
set_option Elab.async false
set_option linter.all false
set_option maxRecDepth 100000
set_option maxHeartbeats 1000000
namespace SP
open PySem PySem.Spec PyProof.Rows L2
abbrev NL : List Str := ["_law_script", "_law_pen_here", "_law_past", "_law_turn", "_law_parts", "_law_k", "_law_some", "_law_built", "_law_other", "_law_odd", "_law_each", "_law_told"]
theorem FrP.new {pen m : Addr} {H H2 : Hp} {o : HO} (hm : H m = none) (nmp : m ≠ pen) (fr : FrP pen H H2) : FrP pen H (L2.upd H2 m o) := by
  refine ⟨fun b o hb ho => ?_, fun c k r h => ?_⟩
  · rw [upd_ne (ne_of_none ho hm)]
    exact fr.1 _ _ hb ho
  · obtain ⟨k', r', e⟩ := fr.2 _ _ _ h
    exact ⟨k', r', by rw [upd_ne nmp.symm]; exact e⟩
theorem PenAt.ne {H : Hp} {pen m : Addr} {n : Nat} (h : PenAt H pen n) (hm : H m = none) : m ≠ pen := by
  obtain ⟨_, _, _, _, h1, _⟩ := h.ex
  exact (ne_of_none h1 hm).symm
/-- the forms met so far -/
def Past (pen : Addr) (H : Hp) (past : Addr) : Prop := ∃ os pss, past ≠ pen ∧ H past = some (.lst os) ∧ LAs pen H os pss ∧ os.length ≤ 6
theorem Past.same {pen : Addr} {H H' : Hp} {a : Addr} (h : Past pen H a) (e : Same H H') : Past pen H' a := by
  obtain ⟨os, pss, h1, h2, h3, h4⟩ := h
  exact ⟨os, pss, h1, e _ _ h2, h3.imp fun _ _ h => h.same e, h4⟩
theorem Past.frp {pen : Addr} {H H' : Hp} {a : Addr} {n : Nat} (h : Past pen H a) (hp : PenAt H pen n) (e : FrP pen H H') : Past pen H' a := by
  obtain ⟨os, pss, h1, h2, h3, h4⟩ := h
  exact ⟨os, pss, h1, e.1 _ _ h1 h2, h3.imp fun _ _ h => h.frp hp e, h4⟩
theorem zero_ok : PartOk (0, 1) := part_one (by decide)
theorem PairsAt.snoc {H : Hp} {vs : List V} {ps : List (Int × Int)} {v : V} {p : Int × Int} (h : PairsAt H vs ps) (hv : PairAt H v p) : PairsAt H (vs ++ [v]) (ps ++ [p]) := h.append (.cons hv .nil)
theorem TxQ.of {p : Int × Int} (h : PartOk p) : TxQ (qOf p) := by
  obtain ⟨a, b⟩ := qOf_num h
  obtain ⟨c, d⟩ := h.log
  unfold TxQ
  rw [a]
  have : (qOf p).den = p.2.natAbs := by omega
  rw [this]
  omega
theorem TxQ.all {ps : List (Int × Int)} (h : ∀ p ∈ ps, PartOk p) : ∀ r ∈ ps.map qOf, TxQ r := by
  intro r hr
  obtain ⟨p, hp, rfl⟩ := List.mem_map.mp hr
  exact TxQ.of (h p hp)
/-- a form with its text -/
def FoT (C CF : Addr) (H : Hp) (v : V) : Prop := ∃ q qs, FoAt C CF H v q qs ∧ TxQ q ∧ (∀ r ∈ qs, TxQ r) ∧ qs.length ≤ 100
theorem FoAt.same {C CF : Addr} {H H' : Hp} {v : V} {q : Rat} {qs : List Rat} (h : FoAt C CF H v q qs) (e : Same H H') : FoAt C CF H' v q qs := by
  obtain ⟨a, dx, c, f, xs, rfl, h1, h2, h3, h4⟩ := h
  exact ⟨a, dx, c, f, xs, rfl, e _ _ h1, h2.mono e, e _ _ h3, h4.mono e⟩
theorem cut_part (t : V) {H : Hp} (ht : PairAt H t (0, 1)) (lo hi : Option Int) : ∃ rs : List (Int × Int), PairsAt H (cutV [t] lo hi) rs ∧ (∀ p ∈ rs, PartOk p) ∧ rs.length ≤ 1 := by
  have hl := cutV_length [t] lo hi
  have hm : ∀ v ∈ cutV [t] lo hi, v = t := fun v hv => by
    unfold cutV at hv
    have := List.mem_of_mem_drop (List.mem_of_mem_take hv)
    simpa using this
  generalize cutV [t] lo hi = l at hl hm
  match l, hl, hm with
  | [], _, _ => exact ⟨[], .nil, by simp, by simp⟩
  | [v], _, hm =>
    have := hm v (by simp)
    subst this
    exact ⟨[(0, 1)], .cons ht .nil, by simpa using zero_ok, by simp⟩
  | _ :: _ :: _, hl, _ => simp at hl
theorem cut5 (os : List V) : (cutV os none (some 5)).length ≤ 5 := by
  unfold cutV
  rw [List.length_take, HT.sIx_none]
  have : HT.sIx os.length os.length (some 5) ≤ 5 := by
    have := HT.sIx_nat os.length os.length 5
    rw [show (some (5 : Int)) = some ((5 : Nat) : Int) from rfl, this]
    omega
  omega
theorem str_form {C CF : Addr} {ta : TA} {σ : L2.St} {H : Hp} {Q : VK} {q0 : Rat} {qs : List Rat} (tq : TxQ q0) (tqs : ∀ r ∈ qs, TxQ r) (hl : qs.length ≤ 100)
    (hta : ∀ Q' : List V → Hp → Prop, (∀ y0 rest H1, Same H H1 → NumAt C H1 y0 q0 → NumsAt C H1 rest qs → Q' (y0 :: rest) H1) → ta σ H Q') (k : ∀ H', Same H H' → Q (.str (foText q0 qs)) H') : tCB (rStrO CF (spFoS C CF) E0) (tCons (StX.tMakeR CF (spForm C CF) E0 ta) tNil) σ H Q := by
  refine hta _ fun y0 rest H1 s1 h0 hr => ?_
  have hlr : rest.length ≤ 100 := by have := hr.len; omega
  exact form_sp (CF := CF) (E := E0) (Q := fun v H2 => rStrO CF (spFoS C CF) E0 [v] H2 Q) h0 hr hlr fun v H2 s2 fo => by
    obtain ⟨a, dx, c, f, xs, rfl, ha, _⟩ := id fo
    exact ⟨a, dx, _, rfl, ha, _, _, _, rfl, fo, tq, tqs, hl, fun H' s3 => ⟨_, rfl, k H' (s1.trans (s2.trans s3))⟩⟩
theorem tx_lit {q : Rat} {n d : Nat} (h1 : q.num.natAbs = n) (h2 : q.den = d) (hn : n < 100) (hd : d < 100) : TxQ q := by
  unfold TxQ
  rw [h1, h2]
  have key : ∀ m : Nat, m < 100 → m.log2 < 1900 := fun m hm => by
    by_cases e : m = 0
    · subst e; decide
    · exact Nat.lt_trans ((Nat.log2_lt (k := 20) e).mpr (by omega)) (by decide)
  exact ⟨key _ hn, key _ hd⟩
theorem told1i : foText ((0 : Int) : Rat) [] = ("0" : Str) := by decide +kernel
theorem told_eqv : PyData.eqv (.list [.str ("0" : Str), .str ("-15 + 2 t1 - 2 t2" : Str), .str ("0 + t2 - 1/2 t3" : Str)]) (.list [.str ("0" : Str), .str ("-15 + 2 t1 - 2 t2" : Str), .str ("0 + t2 - 1/2 t3" : Str)]) = true := by decide +kernel
section
variable {P : Program} {w : World} {K : PySem.W.Frag} {mg : Str → Option Value} {base : Heap}
def spLaw (K : PySem.W.Frag) : Sp := fun vs H Q _ => ∃ (a : Addr) (ns : List Int), vs = [.ref a] ∧ SqL K H a (ns.map V.int) ∧ ns.length ≤ 63 ∧ ∀ H', Q (.bl true) H'
theorem sc_law : FnScope NL ["_law_script"] (defScope s_law) := ⟨rfl, rfl, rfl, by decide +kernel, rfl, by decide +kernel, by decide +kernel⟩
theorem ok_law {f C CF fI fF gE gS f1 f2 f3 f4 f5 f6 : Addr} {fd fdI fd1 fd2 fd3 fd4 fd5 fd6 : FuncData} (F : FnP K "law" "law" s_law [] f fd) (T : AmC K mg C) (TI : AmI K C) (TF : FoC K mg CF) (FI : FoI K CF) (SF : SgF K C CF) (FR : Fre mg) (M : AmMk P w K mg base C fI fdI) (MF : FoMk P w K mg base C CF fF)
    (E1 : Own P w K mg base CF "__eq__" 4 (spFoE K C CF) gE) (S1 : Own P w K mg base CF "__str__" 7 (spFoS C CF) gS)
    (PEN : Gf P w K mg base "_law_pen" 1 ["_law_script"] (spPen K) f1 fd1) (DRAW : Gf P w K mg base "_law_draw" 1 ["_law_pen_here", "_law_many"] spDraw f2 fd2) (PART : Gf P w K mg base "_law_part" 3 ["_law_pen_here"] spPart f3 fd3)
    (NEAR : Gf P w K mg base "_law_near" 4 ["_law_pen_here", "_law_parts"] spNear f4 fd4) (MADE : Gf P w K mg base "_law_made" 7 ["_law_parts"] (spMade C CF) f5 fd5) (TEXT : Gf P w K mg base "_law_text" 2 ["_law_parts"] spText f6 fd6) : FnOk P w K mg base CX0 12 f fd ["_law_script"] (spLaw K) := by
  refine F.ok sc_law (fun vs H Q E h => ?_) (fun cdv A outer s H vs Q E hr h => ?_)
  · obtain ⟨a, ns, rfl, _⟩ := h
    rfl
  · obtain ⟨a, ns, rfl, hS, hns, k⟩ := h
    refine ⟨_, PSs.nox (pss_cons (ps_set (i := 1) sc_law.nd rfl (.inr rfl) (pe_call PEN.ok (hr.mono (by decide)) rfl PEN.g PEN.kp PEN.b .nil pass0 (pa_cons (pv 0) pa_nil)))
      (pss_cons (ps_set (i := 2) sc_law.nd rfl (.inl rfl) (pe_lst (pa_cons (pe_lst (pa_cons (pe_tup (pa_cons pe_int (pa_cons pe_int pa_nil))) pa_nil)) pa_nil)))
      (pss_cons (ps_for PassesOwn.never rfl (pi_range1 (by rfl) FR.range (pa_cons pe_int pa_nil)) (pg_name (i := 3) sc_law.nd rfl (.inl rfl))
        (pss_cons (ps_setLc (i := 4) (own := [("_law_k", 5)]) (g := gName 5) (tt := tYes) rfl sc_law.nd rfl rfl (sw_true rfl rfl rfl (by decide +kernel)) (pi_range1 (by rfl) FR.range (pa_cons (pe_op op_add pe_int (pe_call DRAW.ok (hr.mono (by decide)) rfl DRAW.g DRAW.kp DRAW.b .nil pass0 (pa_cons (pv 1) (pa_cons pe_int pa_nil)))) pa_nil)) (blkOk_by (N := NL) (sc := defScope s_law) (by decide +kernel))
          (fun _ _ _ _ _ => pg_name (i := 5) sc_law.nd rfl (Or.inl rfl)) (fun _ _ _ _ _ => pts_nil) (fun _ _ _ _ _ => pe_call PART.ok (hr.mono (by decide)) rfl PART.g PART.kp PART.b .nil pass0 (pa_cons (pv 1) pa_nil)))
        (pss_cons (ps_for PassesOwn.never rfl (pi_list (pe_lst (pa_cons (pv 4) (pa_cons (pe_call NEAR.ok (hr.mono (by decide)) rfl NEAR.g NEAR.kp NEAR.b .nil pass0 (pa_cons (pv 1) (pa_cons (pv 4) pa_nil))) (pa_cons (pe_op op_cat (pv 4) (pe_slice sl_list (pe_lst (pa_cons (pe_tup (pa_cons pe_int (pa_cons pe_int pa_nil))) pa_nil)) po_none (po_some (pe_op op_sub pe_int (pe_callB call_len_seq (by rfl) FR.len (by decide +kernel) (pa_cons (pv 4) pa_nil)))))) pa_nil))))) (pg_name (i := 6) sc_law.nd rfl (.inl rfl))
          (pss_cons (ps_set (i := 7) sc_law.nd rfl (.inr rfl) (pe_call MADE.ok (hr.mono (by decide)) rfl MADE.g MADE.kp MADE.b .nil pass0 (pa_cons (pv 6) pa_nil)))
          (pss_cons (ps_if (PW.pt (pw_or (pt_cmpR op_ne (pe_callTy (call_strO S1.at_ S1.fn S1.ok (hr.mono (by decide)) pass0) (by rfl) FR.str (by decide +kernel) (pa_cons (pv 7) pa_nil)) (pe_call TEXT.ok (hr.mono (by decide)) rfl TEXT.g TEXT.kp TEXT.b .nil pass0 (pa_cons (pv 6) pa_nil)) (nomark _)) (pw_or1 (pt_cmpR (op_neO SF.ne FI.cm E1.at_ E1.fn E1.ok (hr.mono (by decide)) pass0) (pv 7) (pe_call MADE.ok (hr.mono (by decide)) rfl MADE.g MADE.kp MADE.b .nil pass0 (pa_cons (pe_callTy call_list_of (by rfl) FR.list (by decide +kernel) (pa_cons (pv 6) pa_nil)) pa_nil)) (nomark _))))) (pss_one (ps_ret pe_bl)) pss_nil)
          (pss_cons (ps_for PassesOwn.never rfl (pi_list (pv 2)) (pg_name (i := 8) sc_law.nd rfl (.inl rfl)) (pss_one (ps_if (pt_cmpR op_ne (pe_cmpR (op_cmpO (op := .Eq) (fun _ _ => rfl) E1.at_ E1.fn E1.ok (hr.mono (by decide)) pass0) (pv 7) (pe_call MADE.ok (hr.mono (by decide)) rfl MADE.g MADE.kp MADE.b .nil pass0 (pa_cons (pv 8) pa_nil)) (nomark _)) (pe_cmpR (op_eqD hr.units) (pv 6) (pv 8) (nomark _)) (nomark _)) (pss_one (ps_ret pe_bl)) pss_nil)))
          (pss_one (ps_set (i := 2) sc_law.nd rfl (.inl rfl) (pe_op op_cat (pe_lst (pa_cons (pv 6) pa_nil)) (pe_slice sl_list (pv 2) po_none (po_some pe_int)))))))))
        (pss_cons (ps_set (i := 9) sc_law.nd rfl (.inl rfl) (pe_lst (pa_cons pe_non (pa_cons pe_int (pa_cons (pe_callTy (call_strO S1.at_ S1.fn S1.ok (hr.mono (by decide)) pass0) (by rfl) FR.str (by decide +kernel) (pa_cons (pv 7) pa_nil)) (pa_cons (pv 4) (pa_cons (pe_ix ix_tup (pe_ix ix_list (pv 4) pe_int (fun _ _ => rfl)) pe_int (fun _ _ => rfl)) (pa_cons (pe_fld (pv 7) rfl) (pa_cons (pe_fld (pv 7) rfl) pa_nil)))))))))
        (pss_one (ps_if (pt_cmpR (op_neD hr.units) (pe_lc (own := [("_law_each", 10)]) (g := gName 10) (tt := tTest (tOp (rCmpO K CF (spFoE K C CF) E0) (tVar 7) (tVar 10))) rfl sc_law.nd (pi_list (pv 9)) (blkOk_by (N := NL) (sc := defScope s_law) (by decide +kernel)) (fun _ _ _ _ _ => pg_name (i := 10) sc_law.nd rfl (Or.inl rfl)) (fun _ _ _ _ _ => pts_one (pt_cmpR (op_cmpO (op := .Eq) (fun _ _ => rfl) E1.at_ E1.fn E1.ok (hr.mono (by decide)) pass0) (pv 7) (pv 10) (nomark _))) (fun _ _ _ _ _ => pv 10)) (pe_lst pa_nil) (nomark _)) (pss_one (ps_ret pe_bl)) pss_nil))))))
      (pss_cons (ps_set (i := 11) sc_law.nd rfl (.inl rfl) (pe_lst (pa_cons (pe_callTy (call_strO S1.at_ S1.fn S1.ok (hr.mono (by decide)) pass0) (by rfl) FR.str (by decide +kernel) (pa_cons (StX.pe_makeR MF.mks MF.ok (hr.mono (by decide)) rfl TF.mgF pass0 (pa_cons pe_int pa_nil)) pa_nil))
        (pa_cons (pe_callTy (call_strO S1.at_ S1.fn S1.ok (hr.mono (by decide)) pass0) (by rfl) FR.str (by decide +kernel) (pa_cons (StX.pe_makeR MF.mks MF.ok (hr.mono (by decide)) rfl TF.mgF pass0 (pa_cons (pe_un un_neg pe_int) (pa_cons pe_int (pa_cons (pe_un un_neg pe_int) pa_nil)))) pa_nil))
        (pa_cons (pe_callTy (call_strO S1.at_ S1.fn S1.ok (hr.mono (by decide)) pass0) (by rfl) FR.str (by decide +kernel) (pa_cons (StX.pe_makeR MF.mks MF.ok (hr.mono (by decide)) rfl TF.mgF pass0 (pa_cons pe_int (pa_cons pe_int (pa_cons pe_int (pa_cons (pe_make M.mks M.ok (hr.mono (by decide)) rfl T.mgC M.b2 .nil pass0 (pa_cons (pe_un un_neg pe_int) (pa_cons pe_int pa_nil))) pa_nil))))) pa_nil)) pa_nil)))))
      (pss_one (ps_ret (pe_cmpR (op_eqD hr.units) (pv 11) (pe_lst (pa_cons pe_str (pa_cons pe_str (pa_cons pe_str pa_nil)))) (nomark _)))))))), ?_⟩
    refine ⟨_, rfl, a, ns, rfl, hS, hns, fun pen H1 hpen s1 hp1 => ?_⟩
    refine ⟨(by show 2 ≤ sizeLine; decide), fun t1 ht1 => ⟨(by show 1 ≤ sizeLine; decide), fun l1 hl1 => ⟨(by show 1 ≤ sizeLine; decide), fun l2 hl2 => ?_⟩⟩⟩
    have sA := same_new (o := .tup [.int 0, .int 1]) (Same.refl H1) ht1
    have sB := same_new (o := .lst [.ref t1]) (Same.refl (upd H1 t1 (.tup [.int 0, .int 1]))) hl1
    have sC := same_new (o := .lst [.ref l1]) (Same.refl (upd (upd H1 t1 (.tup [.int 0, .int 1])) l1 (.lst [.ref t1]))) hl2
    have np1 : l1 ≠ pen := (hp1.same sA).ne hl1
    have np2 : l2 ≠ pen := (hp1.same (sA.trans sB)).ne hl2
    have past0 : Past pen (upd (upd (upd H1 t1 (.tup [.int 0, .int 1])) l1 (.lst [.ref t1])) l2 (.lst [.ref l1])) l2 := by
      refine ⟨_, [[(0, 1)]], np2, upd_same, .cons ⟨l1, _, rfl, np1, sC _ _ upd_same, .cons ⟨t1, rfl, sC _ _ (sB _ _ upd_same)⟩ .nil, ?_, by simp, by simp⟩ .nil, by simp⟩
      intro p hp
      simp at hp
      rw [hp]
      exact zero_ok
    have hp3 := hp1.same (sA.trans (sB.trans sC))
    generalize (upd (upd (upd H1 t1 (.tup [.int 0, .int 1])) l1 (.lst [.ref t1])) l2 (.lst [.ref l1])) = H3 at past0 hp3
    refine ⟨9, rfl, by decide, by decide, for_range (n := 9) (fun i σ H2 => ∃ past o3 o4 o5 o6 o7 o8 o9 o10, σ = [some (.ref a), some (.ref pen), some (.ref past), o3, o4, o5, o6, o7, o8, o9, o10, none] ∧ PenAt H2 pen (100 * i) ∧ Past pen H2 past) ⟨l2, none, none, none, none, none, none, none, none, rfl, hp3, past0⟩ ?_ ?_⟩
    · rintro i σ H4 hi ⟨past, o3, o4, o5, o6, o7, o8, o9, o10, rfl, hp4, past4⟩
      refine ⟨_, rfl, pen, 5, 100 * i, rfl, hp4, by omega, by decide, by unfold Bits; decide, fun d H5 d0 d1 hp5 fr5 => ⟨_, _, rfl, rfl, _, rfl, by omega, by omega, fun D hD => ?_⟩⟩
      have past5 := past4.frp hp4 fr5
      have nD := hp5.ne hD
      refine lc_range (lo := 0) (n := (1 + d).toNat) (fun j H6 => ∃ acc ps, H6 D = some (.lst acc) ∧ FrP pen H5 H6 ∧ PenAt H6 pen (100 * i + 1 + 2 * j) ∧ PairsAt H6 acc ps ∧ (∀ p ∈ ps, PartOk p) ∧ ps.length = j) ⟨[], [], upd_same, FrP.new hD nD (FrP.refl _ _), hp5.same (same_new (Same.refl _) hD), .nil, by simp, rfl⟩ ?_ ?_
      · rintro j H6 hj ⟨acc, ps, hacc, fr6, hp6, pa6, ok6, len6⟩
        have la := pa6.len
        refine ⟨rfl, ?_⟩
        refine ⟨_, rfl, pen, _, rfl, hp6, by omega, fun v p H7 pok pav hp7 fr7 => ?_⟩
        have hacc7 := fr7.1 _ _ nD hacc
        refine ⟨acc, hacc7, small1000 (by omega), acc ++ [v], ps ++ [p], upd_same, FrP.new hD nD (fr6.trans fr7), PenAt.upd hp5 hD (fr6.trans fr7) (hp7.mono (by omega)), ?_, ?_, by simp [len6]⟩
        · exact ((pa6.frp hp6 fr7).snoc pav).imp fun v p h => h.lst hacc7
        · intro r hr
          rcases List.mem_append.mp hr with h | h
          · exact ok6 r h
          · simp at h
            rw [h]
            exact pok
      · rintro H6 ⟨acc, ps, hacc, fr6, hp6, pa6, ok6, len6⟩
        have la := pa6.len
        have past6 := past5.frp hp5 fr6
        have l0 : 0 < ps.length := by omega
        have l5 : ps.length ≤ 5 := by omega
        have laD : LA pen H6 (.ref D) ps := ⟨D, acc, rfl, nD, hacc, pa6, ok6, l0, l5⟩
        refine ⟨_, rfl, _, rfl, _, rfl, pen, D, acc, ps, _, rfl, hp6, by omega, hacc, nD, pa6, l0, l5, fun m ys k p H7 pok hm hm7 py7 hp7 fr7 => ?_⟩
        have nm := hp6.ne hm
        have laD7 := laD.frp hp6 fr7
        have hD7 := fr7.1 _ _ nD hacc
        have past7 := past6.frp hp6 fr7
        have okm : ∀ r ∈ ps.set k p, PartOk r := fun r hr => by
          rcases List.mem_or_eq_of_mem_set hr with h | h
          · exact ok6 r h
          · rw [h]; exact pok
        have lam : LA pen H7 (.ref m) (ps.set k p) := ⟨m, ys, rfl, nm, hm7, py7, okm, by simpa using l0, by simpa using l5⟩
        refine ⟨_, rfl, (by show 2 ≤ sizeLine; decide), fun t2 ht2 => ⟨(by show 1 ≤ sizeLine; decide), fun l3 hl3 => ⟨_, rfl, D, acc, rfl, .inl (SqL.of ?_), _, _, rfl, rfl, _, rfl, l3, _, rfl, SqL.of upd_same, fun l4 hl4 => ?_⟩⟩⟩
        · exact (same_new (o := .lst [.ref t2]) (Same.refl (upd H7 t2 (.tup [.int 0, .int 1]))) hl3) _ _ ((same_new (o := .tup [.int 0, .int 1]) (Same.refl H7) ht2) _ _ hD7)
        have tA := same_new (o := .tup [.int 0, .int 1]) (Same.refl H7) ht2
        have tB := same_new (o := .lst [.ref t2]) (Same.refl (upd H7 t2 (.tup [.int 0, .int 1]))) hl3
        have pt2 : PairAt (upd (upd H7 t2 (.tup [.int 0, .int 1])) l3 (.lst [.ref t2])) (.ref t2) (0, 1) := ⟨t2, rfl, tB _ _ upd_same⟩
        have tAB := tA.trans tB
        generalize (upd (upd H7 t2 (.tup [.int 0, .int 1])) l3 (.lst [.ref t2])) = H8 at pt2 tAB hl4 ⊢
        clear tA tB
        obtain ⟨rs, prs, okr, lrs⟩ := cut_part _ pt2 none (some (5 - (acc.length : Int)))
        have tC := same_new (o := .lst (cutV [V.ref t2] none (some (5 - (acc.length : Int))))) (Same.refl H8) hl4
        have tAC := tAB.trans tC
        have hl4' : (upd H8 l4 (.lst (cutV [V.ref t2] none (some (5 - (acc.length : Int)))))) l4 = some (.lst (cutV [V.ref t2] none (some (5 - (acc.length : Int))))) := upd_same
        have prs' := prs.mono tC
        have lcut := prs.len
        have l5' : ps.length + rs.length ≤ 5 := by
          by_cases h : ps.length ≤ 4
          · omega
          · have e : acc.length = 5 := by omega
            rw [e] at lcut
            have e2 : (cutV [V.ref t2] none (some (5 - ((5 : Nat) : Int)))).length = 0 := rfl
            omega
        generalize hc : cutV [V.ref t2] none (some (5 - (acc.length : Int))) = cs at prs' hl4' tC tAC lcut ⊢
        generalize upd H8 l4 (.lst cs) = H9 at prs' hl4' tAC ⊢
        refine ⟨D, l4, acc, cs, rfl, rfl, tAC _ _ hD7, hl4', Nat.le_trans (show acc.length + cs.length ≤ 1000 by omega) (by decide), fun l5a hl5a => ⟨(by show 3 ≤ sizeLine; decide), fun L hL => ?_⟩⟩
        have tD := same_new (o := .lst (acc ++ cs)) (Same.refl H9) hl5a
        have tE := same_new (o := .lst [V.ref D, V.ref m, V.ref l5a]) (Same.refl (upd H9 l5a (.lst (acc ++ cs)))) hL
        have sAll := tAC.trans (tD.trans tE)
        have hp9 := hp7.same tAC
        have n5 := hp9.ne hl5a
        have laL : LA pen (upd (upd H9 l5a (.lst (acc ++ cs))) L (.lst [V.ref D, V.ref m, V.ref l5a])) (.ref l5a) (ps ++ rs) := by
          refine ⟨l5a, _, rfl, n5, tE _ _ upd_same, ((((pa6.frp hp6 fr7).mono tAC).append prs').mono (tD.trans tE)), ?_, by simp; omega, by simpa using l5'⟩
          intro r hr
          rcases List.mem_append.mp hr with h | h
          · exact ok6 r h
          · exact okr r h
        have hLL : (upd (upd H9 l5a (.lst (acc ++ cs))) L (.lst [V.ref D, V.ref m, V.ref l5a])) L = some (.lst [V.ref D, V.ref m, V.ref l5a]) := upd_same
        have laD9 := laD7.same sAll
        have lam9 := lam.same sAll
        have past9 := past7.same sAll
        have hp10 := hp7.same sAll
        generalize (upd (upd H9 l5a (.lst (acc ++ cs))) L (.lst [V.ref D, V.ref m, V.ref l5a])) = G0 at laL hLL laD9 lam9 past9 hp10 ⊢
        clear sAll tE tD tAC prs' hl4' hp9 tAB pt2 past7 lam laD7 hD7 hm7 py7
        have items : ∀ x ∈ [V.ref D, V.ref m, V.ref l5a], ∃ p, LA pen G0 x p := fun x hx => by
          simp only [List.mem_cons, List.mem_nil_iff, or_false] at hx
          rcases hx with rfl | rfl | rfl
          · exact ⟨_, laD9⟩
          · exact ⟨_, lam9⟩
          · exact ⟨_, laL⟩
        refine ⟨L, rfl, ⟨_, SqL.of hLL⟩, for_list (K := K) (a := L) (xs := [V.ref D, V.ref m, V.ref l5a]) (fun k σ G => ∃ past o6 o7 o8, σ = [some (.ref a), some (.ref pen), some (.ref past), some (.int (0 + (i : Int))), some (.ref D), o5, o6, o7, o8, o9, o10, none] ∧ Same G0 G ∧ Past pen G past ∧ (0 < k → ∃ v, o7 = some v ∧ FoT C CF G v)) ⟨past, o6, o7, o8, rfl, Same.refl _, past9, fun h => absurd h (by decide)⟩ (fun k σ G _ ⟨_, _, _, _, _, s, _⟩ => SqL.of (s _ _ hLL)) ?_ ?_⟩
        · rintro k x σ G hx ⟨past, o6, o7, o8, rfl, sG, pastG, _⟩
          obtain ⟨pl, hla⟩ := items x (List.mem_of_getElem? hx)
          obtain ⟨lx, xs, rfl, nlx, hlx, pxs, okx, lx0, lx5⟩ := hla.same sG
          cases pl with
          | nil => simp at lx0
          | cons p0 pr =>
          have lr : pr.length ≤ 4 := by simpa using lx5
          refine ⟨_, rfl, lx, xs, p0, pr, rfl, hlx, pxs, okx, lr, fun v G1 sv fo => ?_⟩
          obtain ⟨av, dv, cv, fv, xv, rfl, hav, _⟩ := id fo
          refine ⟨_, rfl, av, dv, _, rfl, hav, _, _, _, rfl, fo, TxQ.of (okx p0 (by simp)), TxQ.all fun p hp => okx p (by simp [hp]), by simp; omega, fun G2 s2 => ⟨_, rfl, ?_⟩⟩
          have s02 := sv.trans s2
          refine ⟨_, rfl, lx, xs, p0 :: pr, rfl, s02 _ _ hlx, pxs.mono s02, okx, by simp, by simp; omega, fun G3 s3 => ⟨rfl, _, rfl, ?_⟩⟩
          refine iteNS (by rw [text_same okx]) ?_
          have s03 := s02.trans s3
          refine ⟨_, rfl, _, rfl, lx, xs, rfl, .inl (SqL.of (s03 _ _ hlx)), fun lc hlc => ?_⟩
          have s4 := same_new (o := .lst xs) (Same.refl G3) hlc
          refine ⟨lc, xs, p0, pr, rfl, upd_same, (pxs.mono s03).mono s4, okx, lr, fun v2 G5 s5 fo2 => ?_⟩
          have s15 := s2.trans (s3.trans (s4.trans s5))
          have fo5 := fo.same s15
          obtain ⟨av2, dv2, cv2, fv2, xv2, rfl, hav2, _⟩ := id fo2
          refine ⟨av, dv, _, _, rfl, s15 _ _ hav, FI.ty TF.cl fo2, nf_self, _, _, _, _, some (qOf p0, pr.map qOf), rfl, fo5, fo2, _, rfl, _, rfl, ?_⟩
          refine iteNS rfl ?_
          have s05 := s02.trans (s3.trans (s4.trans s5))
          obtain ⟨os, pss, nps, hps, las, los⟩ := pastG.same s05
          have hlx5 := s05 _ _ hlx
          have pxs5 := pxs.mono s05
          have hav5 := s15 _ _ hav
          refine ⟨_, rfl, past, rfl, ⟨_, SqL.of hps⟩, for_list (K := K) (a := past) (xs := os) (fun j σ G => ∃ o8, σ = [some (.ref a), some (.ref pen), some (.ref past), some (.int (0 + (i : Int))), some (.ref D), o5, some (.ref lx), some (.ref av), o8, o9, o10, none] ∧ Same G5 G) ⟨o8, rfl, Same.refl _⟩ (fun j σ G _ ⟨_, _, s⟩ => SqL.of (s _ _ hps)) ?_ ?_⟩
          · rintro j y σ G6 hy ⟨o8, rfl, s6⟩
            obtain ⟨pl, hlb⟩ := las.get hy
            obtain ⟨ly, ys', rfl, nly, hly, pys, oky, ly0, ly5⟩ := hlb.same s6
            cases pl with
            | nil => simp at ly0
            | cons r0 rr =>
            have lrr : rr.length ≤ 4 := by simpa using ly5
            refine ⟨_, rfl, _, rfl, ly, ys', r0, rr, rfl, hly, pys, oky, lrr, fun v3 G7 s7 fo3 => ?_⟩
            have s67 := s6.trans s7
            refine ⟨av, dv, _, _, rfl, s67 _ _ hav5, FI.ty TF.cl fo3, nf_self, _, _, _, _, some (qOf r0, rr.map qOf), rfl, fo5.same s67, fo3, ?_⟩
            refine ⟨_, rfl, _, rfl, .list ((p0 :: pr).map pdP), .list ((r0 :: rr).map pdP), .lst (SqL.of (s67 _ _ hlx5)) (dp_pairs (pxs5.mono s67)), .lst (SqL.of (s7 _ _ hly)) (dp_pairs (pys.mono s7)), shaped_pairs _, shaped_pairs _, rfl, _, rfl, ?_⟩
            rw [eqv_pairs, form_eq okx oky]
            refine iteNS rfl ?_
            exact ⟨_, rfl, s67⟩
          · rintro σ G6 ⟨o8, rfl, s6⟩
            refine ⟨_, rfl, (by show 1 ≤ sizeLine; decide), fun l6 hl6 => ⟨_, rfl, _, rfl, past, os, rfl, SqL.of ((same_new (o := .lst [.ref lx]) (Same.refl G6) hl6) _ _ (s6 _ _ hps)), fun l7 hl7 => ?_⟩⟩
            have u1 := same_new (o := .lst [.ref lx]) (Same.refl G6) hl6
            have q1 : (upd G6 l6 (.lst [.ref lx])) l6 = some (.lst [.ref lx]) := upd_same
            generalize upd G6 l6 (.lst [.ref lx]) = G7 at u1 q1 hl7 ⊢
            have u2 := same_new (o := .lst (cutV os none (some 5))) (Same.refl G7) hl7
            have q2 : (upd G7 l7 (.lst (cutV os none (some 5)))) l7 = some (.lst (cutV os none (some 5))) := upd_same
            generalize upd G7 l7 (.lst (cutV os none (some 5))) = G8 at u2 q2 ⊢
            have l5c : (cutV os none (some 5)).length ≤ 5 := cut5 os
            refine ⟨l6, l7, _, _, rfl, rfl, u2 _ _ q1, q2, Nat.le_trans (show 1 + (cutV os none (some 5)).length ≤ 1000 by omega) (by decide), fun l8 hl8 => ?_⟩
            have u3 := same_new (o := .lst ([V.ref lx] ++ cutV os none (some 5))) (Same.refl G8) hl8
            have q3 : (upd G8 l8 (.lst ([V.ref lx] ++ cutV os none (some 5)))) l8 = some (.lst ([V.ref lx] ++ cutV os none (some 5))) := upd_same
            have w1 := sG.trans (s05.trans (s6.trans (u1.trans u2)))
            have n8 := (hp10.same w1).ne hl8
            generalize upd G8 l8 (.lst ([V.ref lx] ++ cutV os none (some 5))) = G9 at u3 q3 ⊢
            have w2 := s6.trans (u1.trans (u2.trans u3))
            obtain ⟨pss', las'⟩ := (las.imp fun _ _ h => h.same w2).cut none (some 5)
            refine ⟨l8, _, _, _, rfl, w1.trans u3, ⟨_, (p0 :: pr) :: pss', n8, q3, .cons ⟨lx, xs, rfl, nlx, w2 _ _ hlx5, pxs5.mono w2, okx, lx0, lx5⟩ las', by simp; omega⟩, fun _ => ⟨_, rfl, _, _, fo5.same w2, TxQ.of (okx p0 (by simp)), TxQ.all fun p hp => okx p (by simp [hp]), by simp; omega⟩⟩
        · rintro σ G ⟨past, o6, o7, o8, rfl, sG, pastG, hv⟩
          obtain ⟨v, rfl, q, qs, fo, txq, txs, lqs⟩ := hv (by simp)
          obtain ⟨av, dv, cv, fv, xv, rfl, hav, hcv, hfv, hxv⟩ := id fo
          refine ⟨_, rfl, av, dv, _, rfl, hav, _, _, _, rfl, fo, txq, txs, lqs, fun G1 s1 => ⟨_, rfl, ?_⟩⟩
          obtain ⟨D', acc', e, _, hD1, pa1, _, _, _⟩ := laD9.same (sG.trans s1)
          injection e with e
          subst e
          obtain ⟨x0, ac, rfl⟩ : ∃ x0 ac, acc' = x0 :: ac := by
            have := pa1.len
            match acc', this with
            | [], h => exact absurd h (by simp; omega)
            | x :: r, _ => exact ⟨x, r, rfl⟩
          obtain ⟨pp, _, ap, rfl, hap⟩ := pa1.get (i := 0) rfl
          have hav1 := s1 _ _ hav
          refine ⟨_, rfl, _, rfl, D, _, 0, _, rfl, rfl, SqL.of hD1, atI_nat (j := 0) rfl, ap, _, 0, _, rfl, rfl, SqT.of hap, atI_nat (j := 0) rfl, ?_⟩
          refine ⟨_, rfl, av, CF, dv, _, _, rfl, hav1, TF.cl, TF.nC, lk_con cv fv, _, rfl, av, CF, dv, _, _, rfl, hav1, TF.cl, TF.nF, lk_fac cv fv, (by show 7 ≤ sizeLine; decide), fun L9 hL9 => ?_⟩
          have s2 := same_new (o := .lst [V.non, V.int 0, V.str (foText q qs), V.ref D, V.int pp.1, V.ref cv, V.ref fv]) (Same.refl G1) hL9
          have hL9' : (upd G1 L9 (.lst [V.non, V.int 0, V.str (foText q qs), V.ref D, V.int pp.1, V.ref cv, V.ref fv])) L9 = some (.lst [V.non, V.int 0, V.str (foText q qs), V.ref D, V.int pp.1, V.ref cv, V.ref fv]) := upd_same
          generalize upd G1 L9 (.lst [V.non, V.int 0, V.str (foText q qs), V.ref D, V.int pp.1, V.ref cv, V.ref fv]) = G2 at s2 hL9' ⊢
          have s12 := s1.trans s2
          have odd : ∀ x ∈ [V.non, V.int 0, V.str (foText q qs), V.ref D, V.int pp.1, V.ref cv, V.ref fv], ∀ G3, Same G2 G3 → ∃ t, TyX K G3 x t ∧ PySem.W.notFirst K CF t = true ∧ PySem.W.kitOne K t (.ref CF) = some false := fun x hx G3 s3 => by
            simp only [List.mem_cons, List.mem_nil_iff, or_false] at hx
            rcases hx with rfl | rfl | rfl | rfl | rfl | rfl | rfl
            · exact ⟨_, .base .non, SF.nfN, SF.kN⟩
            · exact ⟨_, .base (.int _), SF.nfI, SF.kI⟩
            · exact ⟨_, .base (.str _), SF.nfS, SF.kS⟩
            · exact ⟨_, .base (.lst (s3 _ _ (s2 _ _ hD1))), SF.nfL, SF.kL⟩
            · exact ⟨_, .base (.int _), SF.nfI, SF.kI⟩
            · exact ⟨_, TI.ty T.cl (hcv.mono (s12.trans s3)), SF.nfA, SF.kA⟩
            · exact ⟨_, .base (.tup (s3 _ _ (s12 _ _ hfv))), SF.nfT, SF.kT⟩
          refine ⟨_, rfl, L9, rfl, ⟨_, SqL.of hL9'⟩, fun D2 hD2 => ?_⟩
          refine lc_list (K := K) (a := L9) (xs := [V.non, V.int 0, V.str (foText q qs), V.ref D, V.int pp.1, V.ref cv, V.ref fv]) (fun j G => G D2 = some (.lst []) ∧ Same G2 G) ⟨upd_same, same_new (Same.refl _) hD2⟩ (fun j G3 _ ⟨_, s3⟩ => SqL.of (s3 _ _ hL9')) ?_ ?_
          · rintro j x G3 hx ⟨hd, s3⟩
            obtain ⟨t, ty, nf, kt⟩ := odd x (List.mem_of_getElem? hx) G3 s3
            refine ⟨rfl, ?_⟩
            refine ⟨_, rfl, _, rfl, av, dv, _, t, rfl, s3 _ _ (s12 _ _ hav), ty, nf, _, _, q, qs, none, rfl, fo.same (s12.trans s3), ⟨t, ty, kt⟩, _, rfl, ?_⟩
            exact iteDF (fun z => by cases z) ⟨hd, s3⟩
          · rintro G3 ⟨hd, s3⟩
            refine ⟨(by show 0 ≤ sizeLine; decide), fun e he => ?_⟩
            have s4 := same_new (o := .lst []) (Same.refl G3) he
            refine ⟨.list [], .list [], .lst (SqL.of (s4 _ _ hd)) .nil, .lst (SqL.of upd_same) .nil, rfl, rfl, _, rfl, ?_⟩
            refine iteF ?_
            exact ⟨past, _, _, _, _, _, _, _, _, rfl, (hp10.same (sG.trans (s12.trans (s3.trans s4)))).mono (by omega), pastG.same (s12.trans (s3.trans s4))⟩
    · rintro σ H4 ⟨past, o3, o4, o5, o6, o7, o8, o9, o10, rfl, hp4, past4⟩
      refine str_form (ta := tCons (tC (V.int 0)) tNil) (q0 := ((0 : Int) : Rat)) (qs := []) (tx_lit (n := 0) (d := 1) rfl rfl (by decide) (by decide)) (by simp) (by simp) (fun Q' h => h _ _ _ (Same.refl _) (.inl ⟨0, rfl, rfl⟩) .nil) fun H5 s5 => ?_
      refine str_form (ta := tCons (tUn (rU fun i => V.int (-i)) (tC (V.int 15))) (tCons (tC (V.int 2)) (tCons (tUn (rU fun i => V.int (-i)) (tC (V.int 2))) tNil))) (q0 := ((-15 : Int) : Rat)) (qs := [((2 : Int) : Rat), ((-2 : Int) : Rat)]) (tx_lit (n := 15) (d := 1) rfl rfl (by decide) (by decide)) ?_ (by simp) (fun Q' h => ⟨_, rfl, _, rfl, h _ _ _ (Same.refl _) (.inl ⟨-15, rfl, rfl⟩) (.cons (.inl ⟨2, rfl, rfl⟩) (.cons (.inl ⟨-2, rfl, rfl⟩) .nil))⟩) fun H6 s6 => ?_
      · intro r hr
        simp only [List.mem_cons, List.mem_nil_iff, or_false] at hr
        rcases hr with rfl | rfl
        · exact tx_lit (n := 2) (d := 1) rfl rfl (by decide) (by decide)
        · exact tx_lit (n := 2) (d := 1) rfl rfl (by decide) (by decide)
      refine str_form (ta := tCons (tC (V.int 0)) (tCons (tC (V.int 0)) (tCons (tC (V.int 1)) (tCons (tMake C (spAmI C) [] E0 (tCons (tUn (rU fun i => V.int (-i)) (tC (V.int 1))) (tCons (tC (V.int 2)) tNil))) tNil)))) (q0 := ((0 : Int) : Rat)) (qs := [((0 : Int) : Rat), ((1 : Int) : Rat), Rat.divInt (-1) 2]) (tx_lit (n := 0) (d := 1) rfl rfl (by decide) (by decide)) ?_ (by simp) (fun Q' h => ⟨_, rfl, fun x dx hx hdx hne => ⟨x, dx, _, _, rfl, upd_same, by decide, bits_small (by decide) (by decide), fun H' h2 h3 => ⟨rfl, h _ _ _ (mk_same hx hdx h2) (.inl ⟨0, rfl, rfl⟩) (.cons (.inl ⟨0, rfl, rfl⟩) (.cons (.inl ⟨1, rfl, rfl⟩) (.cons (.inr ⟨x, dx, rfl, h3⟩) .nil)))⟩⟩⟩) fun H7 s7 => ?_
      · intro r hr
        simp only [List.mem_cons, List.mem_nil_iff, or_false] at hr
        rcases hr with rfl | rfl | rfl
        · exact tx_lit (n := 0) (d := 1) rfl rfl (by decide) (by decide)
        · exact tx_lit (n := 1) (d := 1) rfl rfl (by decide) (by decide)
        · exact tx_lit (n := 1) (d := 2) (by decide +kernel) (by decide +kernel) (by decide) (by decide)
      refine ⟨(by show 3 ≤ sizeLine; decide), fun l9 hl9 => ⟨_, rfl, (by show 3 ≤ sizeLine; decide), fun l10 hl10 => ?_⟩⟩
      rw [told1i, told2, told3] at *
      have s8 := same_new (o := .lst [V.str ("0" : Str), V.str ("-15 + 2 t1 - 2 t2" : Str), V.str ("0 + t2 - 1/2 t3" : Str)]) (Same.refl (upd H7 l9 (.lst [V.str ("0" : Str), V.str ("-15 + 2 t1 - 2 t2" : Str), V.str ("0 + t2 - 1/2 t3" : Str)]))) hl10
      refine ⟨.list [.str ("0" : Str), .str ("-15 + 2 t1 - 2 t2" : Str), .str ("0 + t2 - 1/2 t3" : Str)], .list [.str ("0" : Str), .str ("-15 + 2 t1 - 2 t2" : Str), .str ("0 + t2 - 1/2 t3" : Str)], .lst (SqL.of (s8 _ _ upd_same)) (.cons (.str _) (.cons (.str _) (.cons (.str _) .nil))), .lst (SqL.of upd_same) (.cons (.str _) (.cons (.str _) (.cons (.str _) .nil))), by decide +kernel, by decide +kernel, ?_⟩
      rw [told_eqv]
      exact k _
end
end SP
set_option Elab.async false
set_option linter.all false
set_option maxRecDepth 100000
set_option maxHeartbeats 1000000
namespace SP
open PySem PySem.Spec PyProof.Rows L2
/-! ### the Hook: facts as functions to Bool, the frame from chosen names -/
abbrev FaB := PySem.W.Frag → Bool
def growN (g : Addr → Option Obj) (as : List Addr) : Nat → List Addr
  | 0 => as
  | n + 1 => He.growD g (growN g as n)
def asS (xs : List Str) (n : Nat) (g : Addr → Option Obj) : List Addr := growN g (xs.map (He.ga (He.frG g [mainGlobals]))) n ++ [mainGlobals, PySem.cStatics]
def obsB (fa : List FaB) (fn : List He5.DefA) (K : PySem.W.Frag) : He.AlD := ((fa.all fun f => f K) && fn.all fun d => d.ok K, fn.map fun d => He5.fnA K (d.at_ K))
def valB (fn : List He5.DefA) : He.AlD := (true, fn.map He5.DefA.val)
def SaysB (fa : List FaB) (fn : List He5.DefA) (K : PySem.W.Frag) : Prop := obsB fa fn K = valB fn
def obsBG (xs : List Str) (n : Nat) (fa : List FaB) (fn : List He5.DefA) (g : Addr → Option Obj) : He.AlD := obsB fa fn (He.frG g (asS xs n g))
def hookB (xs : List Str) (n : Nat) (fa : List FaB) (fn : List He5.DefA) : PySem.W.Hook where
  α := He.AlD
  obs := fun s => obsBG xs n fa fn s.heap.get?
  val := fun _ => valB fn
  says := fun _ h => ∃ K : PySem.W.Frag, K.In h ∧ SaysB fa fn K
  of := fun _ _ e => ⟨_, He.frG_in, e⟩
  keeps := fun _ _ _ ⟨K, hK, c⟩ k => ⟨K, PySem.W.Frag.In.keeps hK k, c⟩
theorem obsBG_eq {xs : List Str} {n : Nat} {fa : List FaB} {fn : List He5.DefA} {g : Addr → Option Obj} {s : Shared} (h : ∀ a, g a = s.heap.get? a) : obsBG xs n fa fn g = (hookB xs n fa fn).obs s := by
  have e : g = s.heap.get? := funext h
  rw [e] <;> rfl
section
variable {fa : List FaB} {fn : List He5.DefA} {K : PySem.W.Frag}
theorem SaysB.fact (c : SaysB fa fn K) (i : Nat) {f : FaB} (h : fa[i]? = some f) : f K = true := by
  have c1 := (He.ba (show ((fa.all fun f => f K) && fn.all fun d => d.ok K) = true from congrArg (fun z : He.AlD => z.1) c)).1
  exact List.all_eq_true.mp c1 f (List.mem_of_getElem? h)
theorem SaysB.def_ (c : SaysB fa fn K) (i : Nat) {d : He5.DefA} (h : fn[i]? = some d) : ∃ fd, L2.FunD K d.name d.qual d.params d.body d.scope (d.dvs K) (d.kws K) (d.at_ K) fd := by
  have c2 := (He.ba (show ((fa.all fun f => f K) && fn.all fun d => d.ok K) = true from congrArg (fun z : He.AlD => z.1) c)).2
  have e : fn.map (fun d => He5.fnA K (d.at_ K)) = fn.map He5.DefA.val := congrArg (fun z : He.AlD => z.2) c
  have e2 : (fn.map fun d => He5.fnA K (d.at_ K))[i]? = (fn.map He5.DefA.val)[i]? := by rw [e]
  rw [List.getElem?_map, List.getElem?_map, h] at e2
  exact He5.DefA.funD (Option.some.inj e2) (List.all_eq_true.mp c2 d (List.mem_of_getElem? h))
end
/-! ### the facts -/
def vNone : Value := .type "NoneType"
def bFa (f : He.Fa) : FaB := fun K => f.ok K
def bFind (x m : Str) (v : Value) : FaB := fun K => He.eqO (PySem.W.findIn K (.ref (He.ga K x)) m) (some (some v))
def bCls (x : Str) : FaB := fun K => He.eqO (PySem.W.specialIn K (.builtin "object.__class__") "__get__") (some (some (.builtin "getset_descriptor.__get__"))) && decide (PySem.W.takesIn K (.builtin "object.__class__") = some true)
def bObj (x : Str) : FaB := fun K => decide (PySem.W.mroIn K (He.ga K x) (.type "object") = some true)
/-- isinstance of a value of an own class | a built-in one -/
def bKitO (y x : Str) (b : Bool) : FaB := fun K => decide (PySem.W.kitOne K (.ref (He.ga K y)) (.ref (He.ga K x)) = some b)
def bKitT (t : String) (x : Str) (b : Bool) : FaB := fun K => decide (PySem.W.kitOne K (.type t) (.ref (He.ga K x)) = some b)
def bNfO (x y : Str) : FaB := fun K => PySem.W.notFirst K (He.ga K x) (.ref (He.ga K y))
def bNfT (x : Str) (t : String) : FaB := fun K => PySem.W.notFirst K (He.ga K x) (.type t)
def bOwn (x m : Str) : FaB := fun K => He.eqO (PySem.W.findIn K (.ref (He.ga K x)) m) (some (some (.ref (He.ma K (He.ga K x) m)))) && PySem.W.isFn K (.ref (He.ma K (He.ga K x) m))
def bRead (x : Str) : FaB := fun K => PySem.W.readsIn K (He.ga K x) (.type "type")
def bStat (x m : Str) : FaB := fun K => He5.wrapB K (He.ga K x) "staticmethod" "staticmethod.__get__" m && PySem.W.keepIn K (.ref (He5.wf K (He.ga K x) "staticmethod" m))
theorem bCls_ok {x : Str} {K : PySem.W.Frag} (h : bCls x K = true) : PySem.W.specialIn K (.builtin "object.__class__") "__get__" = some (some (.builtin "getset_descriptor.__get__")) ∧ PySem.W.takesIn K (.builtin "object.__class__") = some true := by
  obtain ⟨h1, h2⟩ := He.ba h
  exact ⟨He.eqO_ok h1, of_decide_eq_true h2⟩
theorem bOwn_ok {x m : Str} {K : PySem.W.Frag} (h : bOwn x m K = true) : PySem.W.findIn K (.ref (He.ga K x)) m = some (some (.ref (He.ma K (He.ga K x) m))) ∧ PySem.W.isFn K (.ref (He.ma K (He.ga K x) m)) = true := by
  obtain ⟨h1, h2⟩ := He.ba h
  exact ⟨He.eqO_ok h1, h2⟩
theorem bRead_ok {x : Str} {K : PySem.W.Frag} (h0 : bRead x K = true) : ClX.CRead K (He.ga K x) (.type "type") := by
  refine ⟨h0, ?_⟩
  have h : PySem.W.readsIn K (He.ga K x) (.type "type") = true := h0
  unfold PySem.W.readsIn at h
  obtain ⟨h, _⟩ := He.ba h
  obtain ⟨h, _⟩ := He.ba h
  obtain ⟨h, h3⟩ := He.ba h
  obtain ⟨_, h2⟩ := He.ba h
  unfold PySem.W.specialIn
  rw [beq_iff_eq.mp h2, Option.bind_some]
  exact beq_iff_eq.mp h3
theorem bStat_ok {x m : Str} {K : PySem.W.Frag} (h : bStat x m K = true) : SMet K (He.ga K x) (.type "type") m (He.ma K (He.ga K x) m) (He5.wf K (He.ga K x) "staticmethod" m) := by
  obtain ⟨h1, h2⟩ := He.ba h
  obtain ⟨h3, h4⟩ := He5.wrapB_ok h1
  exact ⟨h3, h4, h2⟩
/-! ### where defs stand -/
def gl (x : Str) : PySem.W.Frag → Addr := fun K => He.ga K x
def mt (x m : Str) : PySem.W.Frag → Addr := fun K => He.ma K (He.ga K x) m
def st (x m : Str) : PySem.W.Frag → Addr := fun K => He5.wf K (He.ga K x) "staticmethod" m
def dG (x : Str) (s : Stmt) : He5.DefA := ⟨gl x, x, x, defArgs s, defBody s, defScope s, [], []⟩
def dM (x m q : Str) (s : Stmt) (ds : List He.Dv) : He5.DefA := ⟨mt x m, m, q, defArgs s, defBody s, defScope s, ds, []⟩
def dS (x m q : Str) (s : Stmt) : He5.DefA := ⟨st x m, m, q, defArgs s, defBody s, defScope s, [], []⟩
theorem raw0 {P : Program} {w : World} {K : PySem.W.Frag} {mg : Str → Option Value} {base : Heap} {n : Nat} {f : Addr} {fd : FuncData} {ps : List Str} {sp : Sp} (F : FnOk P w K mg base CX0 n f fd ps sp) (hb : Binds K fd ps []) : FnR P w K mg base CX0 n f sp := by
  have h := F.raw hb .nil
  have e : (fun vs H Q E => sp (vs ++ []) H Q E) = sp := by
    funext vs H Q E
    rw [List.append_nil]
  rwa [e] at h
end SP
set_option Elab.async false
set_option linter.all false
set_option maxRecDepth 100000
set_option maxHeartbeats 1000000
namespace SP
open PySem PySem.Spec PyProof.Rows L2
def fn : List He5.DefA := [dG "is_integer" s_is_integer, dG "shared_divisor" s_shared_divisor, dM "Amount" "__init__" "Amount.__init__" s_Amount_init [.int 1], dS "Amount" "of" "Amount.of" s_Amount_of,
  dM "Amount" "__eq__" "Amount.__eq__" s_Amount_eq [], dM "Amount" "__gt__" "Amount.__gt__" s_Amount_gt [], dM "Amount" "__abs__" "Amount.__abs__" s_Amount_abs [], dM "Amount" "__str__" "Amount.__str__" s_Amount_str [],
  dG "words_of" s_words_of, dM "Form" "__init__" "Form.__init__" s_Form_init [], dM "Form" "__eq__" "Form.__eq__" s_Form_eq [], dM "Form" "__str__" "Form.__str__" s_Form_str [],
  dG "_law_pen" s_law_pen, dG "_law_draw" s_law_draw, dG "_law_pick" s_law_pick, dG "_law_part" s_law_part, dG "_law_word" s_law_word, dG "_law_text" s_law_text, dG "_law_made" s_law_made, dG "_law_near" s_law_near, dG "law" s_law]
def fa : List FaB := [bFa (.glo "Amount"), bFa (.cls "Amount"), bFa (.noat "Amount" "top"), bFa (.noat "Amount" "bottom"), bFa (.mkr "Amount"), bFind "Amount" "__class__" (.builtin "object.__class__"), bCls "Amount", bObj "Amount", bKitO "Amount" "Amount" true, bKitT "int" "Amount" false,
  bFind "Amount" "__ne__" (.builtin "object.__ne__"), bFind "Amount" "__format__" (.builtin "object.__format__"), bNfT "Amount" "int", bRead "Amount", bStat "Amount" "of", bOwn "Amount" "__eq__", bOwn "Amount" "__gt__", bOwn "Amount" "__abs__", bOwn "Amount" "__str__",
  bFa (.glo "Form"), bFa (.cls "Form"), bFa (.noat "Form" "constant"), bFa (.noat "Form" "factors"), bFa (.mkr "Form"), bFind "Form" "__class__" (.builtin "object.__class__"), bObj "Form", bKitO "Form" "Form" true, bFind "Form" "__ne__" (.builtin "object.__ne__"),
  bOwn "Form" "__eq__", bOwn "Form" "__str__", bNfT "Form" "NoneType", bNfT "Form" "int", bNfT "Form" "str", bNfT "Form" "list", bNfT "Form" "tuple", bNfO "Form" "Amount",
  bKitT "NoneType" "Form" false, bKitT "int" "Form" false, bKitT "str" "Form" false, bKitT "list" "Form" false, bKitT "tuple" "Form" false, bKitO "Amount" "Form" false,
  bFa (.glo "is_integer"), bFa (.glo "shared_divisor"), bFa (.glo "words_of"), bFa (.glo "_law_pen"), bFa (.glo "_law_draw"), bFa (.glo "_law_pick"), bFa (.glo "_law_part"), bFa (.glo "_law_word"), bFa (.glo "_law_text"), bFa (.glo "_law_made"), bFa (.glo "_law_near"), bFa (.glo "law"),
  bFa (.free "isinstance"), bFa (.free "int"), bFa (.free "bool"), bFa (.free "abs"), bFa (.free "len"), bFa (.free "list"), bFa (.free "str"), bFa (.free "range"), bFa (.free "tuple"), bFa (.free "enumerate")]
def roots : List Str := ["Amount", "Form", "is_integer", "shared_divisor", "words_of", "_law_pen", "_law_draw", "_law_pick", "_law_part", "_law_word", "_law_text", "_law_made", "_law_near", "law"]
theorem facts {P : Program} {w : World} {K : PySem.W.Frag} {h : Heap} {mg : Str → Option Value} {f : Addr} (X : K.In h) (G : h.Ns mainGlobals mg) (hfa : mg ("law" : Str) = some (.ref f)) (c : SaysB fa fn K) :
    ∃ fd : FuncData, (∀ (s : Shared) (v : Value), BindsTo s fd ⟨[v], []⟩ [("_law_script", v)]) ∧ ∀ base : Heap, K.In base → base.Ns mainGlobals mg → FnOk P w K mg base CX0 12 f fd ["_law_script"] (spLaw K) := by
  obtain ⟨fd0, F0⟩ := c.def_ 0 rfl
  obtain ⟨fd1, F1⟩ := c.def_ 1 rfl
  obtain ⟨fd2, F2⟩ := c.def_ 2 rfl
  obtain ⟨fd3, F3⟩ := c.def_ 3 rfl
  obtain ⟨fd4, F4⟩ := c.def_ 4 rfl
  obtain ⟨fd5, F5⟩ := c.def_ 5 rfl
  obtain ⟨fd6, F6⟩ := c.def_ 6 rfl
  obtain ⟨fd7, F7⟩ := c.def_ 7 rfl
  obtain ⟨fd8, F8⟩ := c.def_ 8 rfl
  obtain ⟨fd9, F9⟩ := c.def_ 9 rfl
  obtain ⟨fd10, F10⟩ := c.def_ 10 rfl
  obtain ⟨fd11, F11⟩ := c.def_ 11 rfl
  obtain ⟨fd12, F12⟩ := c.def_ 12 rfl
  obtain ⟨fd13, F13⟩ := c.def_ 13 rfl
  obtain ⟨fd14, F14⟩ := c.def_ 14 rfl
  obtain ⟨fd15, F15⟩ := c.def_ 15 rfl
  obtain ⟨fd16, F16⟩ := c.def_ 16 rfl
  obtain ⟨fd17, F17⟩ := c.def_ 17 rfl
  obtain ⟨fd18, F18⟩ := c.def_ 18 rfl
  obtain ⟨fd19, F19⟩ := c.def_ 19 rfl
  obtain ⟨fd, F⟩ := c.def_ 20 rfl
  have e := hfa.symm.trans (He.glo_ok X G (c.fact 53 (f := bFa (.glo "law")) rfl))
  cases e
  have b := FunD.bindsA (ps := ["_law_script"]) F fun _ _ _ _ _ _ us hl => match us, hl with | [_], _ => rfl
  have mI := He.free_ok X G (c.fact 54 (f := bFa (.free "isinstance")) rfl)
  have mi := He.free_ok X G (c.fact 55 (f := bFa (.free "int")) rfl)
  have mb := He.free_ok X G (c.fact 56 (f := bFa (.free "bool")) rfl)
  have ma := He.free_ok X G (c.fact 57 (f := bFa (.free "abs")) rfl)
  have ml := He.free_ok X G (c.fact 58 (f := bFa (.free "len")) rfl)
  have mL := He.free_ok X G (c.fact 59 (f := bFa (.free "list")) rfl)
  have ms := He.free_ok X G (c.fact 60 (f := bFa (.free "str")) rfl)
  have mr := He.free_ok X G (c.fact 61 (f := bFa (.free "range")) rfl)
  have mt := He.free_ok X G (c.fact 62 (f := bFa (.free "tuple")) rfl)
  have me := He.free_ok X G (c.fact 63 (f := bFa (.free "enumerate")) rfl)
  have gI := He.glo_ok X G (c.fact 42 (f := bFa (.glo "is_integer")) rfl)
  have gS := He.glo_ok X G (c.fact 43 (f := bFa (.glo "shared_divisor")) rfl)
  have gW := He.glo_ok X G (c.fact 44 (f := bFa (.glo "words_of")) rfl)
  have gPen := He.glo_ok X G (c.fact 45 (f := bFa (.glo "_law_pen")) rfl)
  have gDraw := He.glo_ok X G (c.fact 46 (f := bFa (.glo "_law_draw")) rfl)
  have gPick := He.glo_ok X G (c.fact 47 (f := bFa (.glo "_law_pick")) rfl)
  have gPart := He.glo_ok X G (c.fact 48 (f := bFa (.glo "_law_part")) rfl)
  have gWord := He.glo_ok X G (c.fact 49 (f := bFa (.glo "_law_word")) rfl)
  have gText := He.glo_ok X G (c.fact 50 (f := bFa (.glo "_law_text")) rfl)
  have gMade := He.glo_ok X G (c.fact 51 (f := bFa (.glo "_law_made")) rfl)
  have gNear := He.glo_ok X G (c.fact 52 (f := bFa (.glo "_law_near")) rfl)
  have cl6 := bCls_ok (c.fact 6 (f := bCls "Amount") rfl)
  have T : AmC K mg (He.ga K "Amount") := ⟨He.cls_ok (c.fact 1 (f := bFa (.cls "Amount")) rfl), He.noat_ok (c.fact 2 (f := bFa (.noat "Amount" "top")) rfl), He.noat_ok (c.fact 3 (f := bFa (.noat "Amount" "bottom")) rfl), He.glo_ok X G (c.fact 0 (f := bFa (.glo "Amount")) rfl)⟩
  have TI : AmI K (He.ga K "Amount") := ⟨He.eqO_ok (c.fact 5 (f := bFind "Amount" "__class__" (.builtin "object.__class__")) rfl), cl6.1, cl6.2, of_decide_eq_true (c.fact 7 (f := bObj "Amount") rfl), of_decide_eq_true (c.fact 8 (f := bKitO "Amount" "Amount" true) rfl), of_decide_eq_true (c.fact 9 (f := bKitT "int" "Amount" false) rfl)⟩
  have TS : SgC K (He.ga K "Amount") := ⟨He.eqO_ok (c.fact 10 (f := bFind "Amount" "__ne__" (.builtin "object.__ne__")) rfl), He.eqO_ok (c.fact 11 (f := bFind "Amount" "__format__" (.builtin "object.__format__")) rfl), of_decide_eq_true (c.fact 7 (f := bObj "Amount") rfl), c.fact 12 (f := bNfT "Amount" "int") rfl⟩
  have TF : FoC K mg (He.ga K "Form") := ⟨He.cls_ok (c.fact 20 (f := bFa (.cls "Form")) rfl), He.noat_ok (c.fact 21 (f := bFa (.noat "Form" "constant")) rfl), He.noat_ok (c.fact 22 (f := bFa (.noat "Form" "factors")) rfl), He.glo_ok X G (c.fact 19 (f := bFa (.glo "Form")) rfl)⟩
  have FI : FoI K (He.ga K "Form") := ⟨He.eqO_ok (c.fact 24 (f := bFind "Form" "__class__" (.builtin "object.__class__")) rfl), cl6.1, cl6.2, of_decide_eq_true (c.fact 25 (f := bObj "Form") rfl), of_decide_eq_true (c.fact 26 (f := bKitO "Form" "Form" true) rfl)⟩
  have SF : SgF K (He.ga K "Amount") (He.ga K "Form") := ⟨He.eqO_ok (c.fact 27 (f := bFind "Form" "__ne__" (.builtin "object.__ne__")) rfl), c.fact 30 (f := bNfT "Form" "NoneType") rfl, c.fact 31 (f := bNfT "Form" "int") rfl, c.fact 32 (f := bNfT "Form" "str") rfl, c.fact 33 (f := bNfT "Form" "list") rfl, c.fact 34 (f := bNfT "Form" "tuple") rfl, c.fact 35 (f := bNfO "Form" "Amount") rfl,
    of_decide_eq_true (c.fact 36 (f := bKitT "NoneType" "Form" false) rfl), of_decide_eq_true (c.fact 37 (f := bKitT "int" "Form" false) rfl), of_decide_eq_true (c.fact 38 (f := bKitT "str" "Form" false) rfl), of_decide_eq_true (c.fact 39 (f := bKitT "list" "Form" false) rfl), of_decide_eq_true (c.fact 40 (f := bKitT "tuple" "Form" false) rfl), of_decide_eq_true (c.fact 41 (f := bKitO "Amount" "Form" false) rfl)⟩
  have rd := bRead_ok (c.fact 13 (f := bRead "Amount") rfl)
  have sOf := bStat_ok (c.fact 14 (f := bStat "Amount" "of") rfl)
  have oE := bOwn_ok (c.fact 15 (f := bOwn "Amount" "__eq__") rfl)
  have oG := bOwn_ok (c.fact 16 (f := bOwn "Amount" "__gt__") rfl)
  have oA := bOwn_ok (c.fact 17 (f := bOwn "Amount" "__abs__") rfl)
  have oS := bOwn_ok (c.fact 18 (f := bOwn "Amount" "__str__") rfl)
  have oFE := bOwn_ok (c.fact 28 (f := bOwn "Form" "__eq__") rfl)
  have oFS := bOwn_ok (c.fact 29 (f := bOwn "Form" "__str__") rfl)
  have mkA := He.mkr_ok (c.fact 4 (f := bFa (.mkr "Amount")) rfl)
  have mkF := He.mkr_ok (c.fact 23 (f := bFa (.mkr "Form")) rfl)
  have bI2 : Binds K fd2 ["self", "top", "bottom"] [] := by
    obtain ⟨ds, hv, hb⟩ := FunD.binds1 (ps := ["self", "top", "bottom"]) F2 3 1 (by intro z; cases z) rfl fun T kV doc pm an cdv ct us its hu hi => match us, hu, its, hi with | [_, _, _], _, [_], _ => ⟨_, rfl, rfl⟩
    cases hv
    exact hb
  have bI1 : ∃ ds, Vals [V.int 1] ds ∧ Binds K fd2 ["self", "top", "bottom"] ds := FunD.binds1 (ps := ["self", "top", "bottom"]) F2 2 0 (by intro z; cases z) rfl fun T kV doc pm an cdv ct us its hu hi => match us, hu, its, hi with | [_, _], _, [_], _ => ⟨_, rfl, rfl⟩
  refine ⟨fd, fun s v => b s [v] rfl, fun base _ _ => ?_⟩
  have M : AmMk P w K mg base (He.ga K "Amount") (He.ma K (He.ga K "Amount") "__init__") fd2 := ⟨mkA, ok_ai F2 T F0 gI F1 gS mI mi mb ma, bI2, bI1⟩
  have O : AmOf P w K mg base (He.ga K "Amount") _ _ := ⟨rd, sOf, raw0 (ok_of F3 T TI M F0 gI mI mi mb) (FunD.bindsN (ps := ["number"]) F3 fun _ _ _ _ _ _ us hl => match us, hl with | [_], _ => rfl)⟩
  have E1 : Own P w K mg base (He.ga K "Amount") "__eq__" 2 (spEqA K (He.ga K "Amount")) _ := ⟨oE.1, oE.2, raw0 (ok_eq F4 T TI F0 gI mI mi mb) (FunD.bindsN (ps := ["self", "other"]) F4 fun _ _ _ _ _ _ us hl => match us, hl with | [_, _], _ => rfl)⟩
  have G1 : Own P w K mg base (He.ga K "Amount") "__gt__" 5 (spCmp (He.ga K "Amount") fun q q2 => decide (q2 < q)) _ := ⟨oG.1, oG.2, raw0 (ok_gt F5 T O) (FunD.bindsN (ps := ["self", "other"]) F5 fun _ _ _ _ _ _ us hl => match us, hl with | [_, _], _ => rfl)⟩
  have A1 : Own P w K mg base (He.ga K "Amount") "__abs__" 4 (spUn (He.ga K "Amount") absQ) _ := ⟨oA.1, oA.2, raw0 (ok_abs F6 T M ma) (FunD.bindsN (ps := ["self"]) F6 fun _ _ _ _ _ _ us hl => match us, hl with | [_], _ => rfl)⟩
  have S1 : Own P w K mg base (He.ga K "Amount") "__str__" 1 (spStr (He.ga K "Amount")) _ := ⟨oS.1, oS.2, raw0 (ok_str F7 T ms) (FunD.bindsN (ps := ["self"]) F7 fun _ _ _ _ _ _ us hl => match us, hl with | [_], _ => rfl)⟩
  have W := ok_words F8 T TI TS E1 G1 A1 S1 me ma
  have MF : FoMk P w K mg base (He.ga K "Amount") (He.ga K "Form") _ := ⟨mkF, ok_fi F9 T TF O mt⟩
  have FE : Own P w K mg base (He.ga K "Form") "__eq__" 4 (spFoE K (He.ga K "Amount") (He.ga K "Form")) _ := ⟨oFE.1, oFE.2, raw0 (ok_feq F10 T TI TF FI E1 mI) (FunD.bindsN (ps := ["self", "other"]) F10 fun _ _ _ _ _ _ us hl => match us, hl with | [_, _], _ => rfl)⟩
  have FS : Own P w K mg base (He.ga K "Form") "__str__" 7 (spFoS (He.ga K "Amount") (He.ga K "Form")) _ := ⟨oFS.1, oFS.2, raw0 (ok_fstr F11 TF W F8 gW) (FunD.bindsN (ps := ["self"]) F11 fun _ _ _ _ _ _ us hl => match us, hl with | [_], _ => rfl)⟩
  have DRAW := ok_draw (P := P) (w := w) (base := base) F13 mi ml ma
  have PICK := ok_pick (P := P) (w := w) (base := base) F14 DRAW F13 gDraw ml
  have PART := ok_part (P := P) (w := w) (base := base) F15 DRAW F13 gDraw PICK F14 gPick
  have WORD := ok_word (P := P) (w := w) (base := base) F16 ms
  have TEXT := ok_text F17 WORD F16 gWord ms ml ma mr
  have MADE := ok_made F18 T TF M MF ml
  have NEAR := ok_near F19 DRAW F13 gDraw PART F15 gPart ml mL
  exact ok_law F T TI TF FI SF ⟨mr, ml, ms, mL⟩ M MF FE FS
    ⟨ok_pen F12 mL, FunD.bindsN (ps := ["_law_script"]) F12 fun _ _ _ _ _ _ us hl => match us, hl with | [_], _ => rfl, gPen, F12.kp⟩
    ⟨DRAW, FunD.bindsN (ps := ["_law_pen_here", "_law_many"]) F13 fun _ _ _ _ _ _ us hl => match us, hl with | [_, _], _ => rfl, gDraw, F13.kp⟩
    ⟨PART, FunD.bindsN (ps := ["_law_pen_here"]) F15 fun _ _ _ _ _ _ us hl => match us, hl with | [_], _ => rfl, gPart, F15.kp⟩
    ⟨NEAR, FunD.bindsN (ps := ["_law_pen_here", "_law_parts"]) F19 fun _ _ _ _ _ _ us hl => match us, hl with | [_, _], _ => rfl, gNear, F19.kp⟩
    ⟨MADE, FunD.bindsN (ps := ["_law_parts"]) F18 fun _ _ _ _ _ _ us hl => match us, hl with | [_], _ => rfl, gMade, F18.kp⟩
    ⟨TEXT, FunD.bindsN (ps := ["_law_parts"]) F17 fun _ _ _ _ _ _ us hl => match us, hl with | [_], _ => rfl, gText, F17.kp⟩
end SP
set_option Elab.async false
set_option linter.all false
set_option maxRecDepth 100000
set_option maxHeartbeats 0
namespace SP
open PySem PySem.Spec PyProof.Rows L2
abbrev R : PySem.W.OpenRow := PySem.W.OpenLaw.row PySem.Challenge.rw_slidpane_k25_texts_of_forms
abbrev hk : PySem.W.Hook := hookB roots 4 fa fn
def names : List PySem.Str := (["_wall", "PaneError", "BadNumber", "BadFold", "BadSheet", "BadPanel", "BadFolding", "BadText", "TooMany", "FIGURES", "is_integer", "is_plain", "shared_divisor", "integer_in", "Amount", "divisor_of", "MOST_FOLDS_foldings", "Folding", "Fold", "Ruled"] : List PySem.Str) ++ (["Stepped", "Over", "Under", "RuledOver", "RuledUnder", "SteppedOver", "SteppedUnder", "fold_of", "amount_in", "Words", "MOST_FOLDS_sheets", "is_index", "take_fold", "Sheet", "Form", "words_of", "_law_pen", "_law_draw", "_law_pick", "_law_part"] : List PySem.Str) ++ (["_law_word", "_law_text", "_law_made", "_law_near"] : List PySem.Str)
def ob (s : PySem.W.SharedT) : He.AlD := obsBG roots 4 fa fn (HandSHeadRun.getT s)
theorem ob_eq (s : PySem.W.SharedT) : ob s = hk.obs s.abs := obsBG_eq (HandSHeadRun.getT_eq s)
theorem run (w : World) : HandSHeadRun.RunEq R (PySem.W.view R.prog [52]) hk ob 40000 names w := by
  intro os
  kernel_rfl
end SP
open PySem PySem.W PySem.Calls PyProof.Rows
theorem PySem.Challenge.cw_slidpane_k25_texts_of_forms_holds : PySem.Challenge.rw_slidpane_k25_texts_of_forms.Holds := by
  w_on; o_law
  refine HandSHeadRun.head_any (r := OpenLaw.row PySem.Challenge.rw_slidpane_k25_texts_of_forms) (q := view (OpenLaw.row PySem.Challenge.rw_slidpane_k25_texts_of_forms).prog [52]) (H := SP.hk) (ob := SP.ob) (M := 40000) (loose := SP.names) (d := HandSHeadRun.topDef (OpenLaw.row PySem.Challenge.rw_slidpane_k25_texts_of_forms).prog 52) (kwd := []) SP.ob_eq
    (by kernel_rfl) (fun s => by kernel_rfl) SP.run (by kernel_rfl) (by kernel_rfl) (by kernel_rfl) (by rfl) (by first | assumption | decide +kernel) (by decide +kernel) ⟨rfl, rfl, rfl, rfl, rfl, by decide +kernel⟩ ?hw ?hc
  case hw => w_witness2
  case hc =>
    refine L2.walk_ofE (l := PySem.Challenge.rw_slidpane_k25_texts_of_forms) (n := 63) (k := 12) (x := "_law_script") (CX := L2.CX0) rfl (by decide) (by kernel_rfl) ⟨rfl, by decide, by decide⟩ ?F (fun _ _ _ _ z => z)
    intro w mg fa h Y G hmg0
    obtain ⟨K, KX, c⟩ := Y
    have hmg : mg ("law" : PySem.Str) = some (.ref fa) := by
      have e : (HandSHeadRun.topDef (OpenLaw.row PySem.Challenge.rw_slidpane_k25_texts_of_forms).prog 52).name = ("law" : PySem.Str) := by kernel_rfl
      rw [← e]
      exact hmg0
    obtain ⟨fd, hb, hF⟩ := SP.facts (P := (PySem.Challenge.rw_slidpane_k25_texts_of_forms).prog) (w := w) KX G hmg c
    exact ⟨K, fd, SP.spLaw K, KX, hb, fun H a ns hl _ hS => ⟨a, ns, rfl, hS, hl, fun _ => rfl⟩, hF⟩

