import PyProof.Rows.All
import Wide.All
import OpenK.AllK
import Wide.FinOn
import KE.KFmtOwn
import KE.KCallOwn
import PyProof.InstEq
import HandS.ForMost
import HandS.Exc
import HandS.Defaults
import HandS.IsInst
import HandS.MakeKw
import HandS.TupAny
import HandS.ClsMeth
import HandS.HeadHook1
import HandS.HeadHook2
import HandS.Wide
import HandS.TupLe
import HandS.Deep
import HandS.Zip
import HandS.Style
import HandS.Flow
import HandS.Steps
import HandS.Rev
import KE.DatumOrd
import KE.KIndexOf
import HandS.TupMul
import HandS.Evl
import HandS.Star
import HandS.TryOnly
import HandS.Conv
import HandS.Dict
import PyProof.EnumMake
import HandS.GenYield
import HandS.Iter
import KE.GoesMore
import PyProof.Draws
import PySem.Challenge.RW_anyseven_k10_sorts_go_along
import KE.KStateDown
import HandS.Head0
import HandS.Head1
import HandS.Head2
import HandS.HeadEnd
set_option Elab.async false
set_option linter.all false
set_option maxRecDepth 100000
set_option maxHeartbeats 4000000
/-! Rules more than the layer has: own len, str, == and !=, staticmethods, keywords at methods; lists joined that are locked. -/
namespace PySem.W
open PySem PySem.Spec PySem.Calls PyProof.Rows
section
variable {prog : Program} {w : World} {M : Model} {A : Around} {E : Value → Shared → Prop} {s : Shared} {K : Frag} {x C f L : Addr} {ox : Obj} {od : Option Obj} {h₀ : Heap} {m : Str → Option Value} {b tb : Value}
/-- a slot of a built-in that a class has not of its own -/
theorem ifBound_B {name : Str} {id : String} {args : List Value} {Q : Option Value → Shared → Prop} (X : K.In s.heap) (I : InstAt s.heap x ox C od) (hs : findIn K (.ref C) name = some (some (.builtin id)))
    (hb : ∀ self, bindSpecial (.builtin id) self = pure (.builtin id, [self])) (h : wpAny M A (call (.builtin id) (.ref x :: args)) (fun v => Q (some v)) E s) : wpAny M A (callSpecialIfBound? (.ref x) name args) Q E s := by
  simp only [callSpecialIfBound?, bindSpecialIfBound?]
  refine wpAny_holding (wpAny_bind (wpAny_bind (wpAny_bind (I.type.here ((looks_findIn X hs).here ?_)))))
  refine wpAny_bind (wpAny_askSetting (wpAny_ite ?_))
  have fin : wpAny M A (call (.builtin id) ([.ref x] ++ args) >>= fun v => pure (some v)) Q E s := wpAny_bind (wpAny_mono h (fun v s' h' => wpAny_pure h') fun _ _ h' => h')
  split
  · exact wpAny_bind ((Looks.of_pure (hb _)).here (wpAny_pure (by exact fin)))
  · exact wpAny_tryCatch (wpAny_bind ((Looks.of_pure (hb _)).here (wpAny_pure (by exact fin))))
/-- x != b by the own == of x's class, which has no own != -/
theorem ne_K {Q : Value → Shared → Prop} (hu : A.units < cLine) (hu1 : A.in1.units < cLine) (F : Fr h₀ L s.heap m) (X₀ : K.In h₀) (I : InstAt s.heap x ox C od) (hb : Looks (model prog w) s.heap (typeOf b) tb) (hn : notFirst K C tb = true)
    (hne : findIn K (.ref C) "__ne__" = some (some (.builtin "object.__ne__"))) (hm : mroIn K C (.type "object") = some true) (hs : findIn K (.ref C) "__eq__" = some (some (.ref f))) (hf : isFn K (.ref f) = true)
    (h : wpAny (model prog w) A.in1 (call (.ref f) [.ref x, b]) (fun v s' => ∃ r, v = .bool r ∧ Q (.bool (!r)) s') E s) : wpAny (model prog w) A (richCompare .NotEq (.ref x) b) Q E s := by
  have X := X₀.keeps F.keep
  have one : wpAny (model prog w) A (tryCompare (.ref x) (cmpInfo .NotEq).2.1 b) (fun r s' => ∃ v, r = some v ∧ Q v s') E s := by
    unfold tryCompare
    refine wpAny_bind (ifBound_B X I hne PySem.F.slot_object_ne.bind (wpAny_call (codeAny_call_builtin PySem.F.slot_object_ne.plain PySem.F.cmpEntry_ne (check_slot (i := "object.__ne__") (owner := "object") (n := "__ne__") PySem.F.cmpKind_ne PySem.F.cmpSplit_ne (I.type.andThen (looks_mroIn X hm)) (PySem.F.cmpArgs_ne _ _) ?_))))
    show wpAny _ A.in1 (Builtin.«object.__ne__» ⟨[.ref x, b], []⟩) _ _ _
    unfold Builtin.«object.__ne__»
    refine wpAny_bind (m := slotArgs "__ne__" 1 _) (wpAny_pure ?_)
    refine wpAny_bind (m := cRoomFor _ _) (wpAny_cRoomFor hu1 ?_)
    refine wpAny_bind (m := callSpecialIfBound? (.ref x) (Str.ofString "__eq__") [b]) (ifBound_K X I hs hf (wpAny_mono h (fun r s' hr => ?_) fun _ _ e => e))
    obtain ⟨r, rfl, hq⟩ := hr
    refine wpAny_bind (m := truthy (.bool r)) (wpAny_truthy_bool ?_)
    exact wpAny_pure (wpAny_pure ⟨_, rfl, hq⟩)
  unfold richCompare
  simp only [oneThing_ref]
  refine wpAny_holding (wpAny_bind (wpAny_cRoomFor hu ?_))
  refine wpAny_bind (I.type.here (wpAny_bind (hb.here ?_)))
  split
  · rename_i q
    have e : subIn K tb (.ref C) = some false := by
      rcases Bool.or_eq_true_iff.mp hn with e | e
      · rw [beq_iff_eq.mp e] at q; simp at q
      · exact beq_iff_eq.mp e
    refine wpAny_bind ((looks_subIn X e).here ?_)
    simp only [Bool.false_eq_true, if_false]
    refine wpAny_bind (wpAny_mono one (fun r s' z => ?_) fun _ _ e => e)
    obtain ⟨v, rfl, hq⟩ := z
    exact wpAny_pure hq
  · refine wpAny_bind (wpAny_pure ?_)
    simp only [Bool.false_eq_true, if_false]
    refine wpAny_bind (wpAny_mono one (fun r s' z => ?_) fun _ _ e => e)
    obtain ⟨v, rfl, hq⟩ := z
    exact wpAny_pure hq
end
end PySem.W
namespace Rl
open PySem PySem.Spec PyProof.Rows L2
section
variable {X : Cx} {pins : List (Addr × Obj)} {σ : L2.St} {H : Hp} {s : Shared}
/-- an own def called from below the running body -/
theorem run_in {CX : CXT} {k : Nat} {f : Addr} {fd : FuncData} {ps : List Str} {sp : Sp} {E : XK} {A : Around} {Q : VK} {us : List Value} {vs : List V} (F : FnOk X.prog X.w X.K X.mg X.base CX k f fd ps sp) (hr : Room k A) (hf : A.frames = X.A.frames)
    (hb : Binds X.K fd ps []) (hx : Passes CX X E) (I : Inv X pins σ H s) (r : Vals vs us) (h : sp vs H Q E) : wpAny (model X.prog X.w) A (call (.ref f) us) (EP X pins σ Q) X.xe s := by
  have e0 : Env0 X.prog X.w X.K X.mg X.base A X.stack s H := by
    have e := I.env0
    exact ⟨by rw [hf]; exact e.frames, e.mod, e.bs, e.bsz, e.funs, e.frf, e.hok, e.bare⟩
  have hl := F.len _ _ _ _ h
  have hl2 : us.length = ps.length := by rw [← r.length]; exact hl
  refine wpAny_call (codeAny_mono (F.run A X.stack s H ⟨us, []⟩ us vs _ E hr e0 (by
    have := hb s us I.kIn (by simpa using hl2)
    simpa using this) r h) fun r s' hq => ?_)
  cases r with
  | error e => exact hx pins σ H s e s' I hq
  | ok fl =>
    cases fl with
    | ret w => exact I.after hq
    | next => exact False.elim hq
    | brk => exact False.elim hq
    | cont => exact False.elim hq
/-- what an own special method is: of the class at C, named m, the def at f -/
structure Spm (K : PySem.W.Frag) (C : Addr) (m : Str) (f : Addr) : Prop where
  at_ : PySem.W.findIn K (.ref C) m = some (some (.ref f))
  fn : PySem.W.isFn K (.ref f) = true
theorem inst_of {a C dx : Addr} {fs : List (Str × V)} (I : Inv X pins σ H s) (h : H a = some (.ins C dx fs)) : ∃ od, PySem.W.InstAt s.heap a (PySem.W.instObj C dx) C (some od) := by
  obtain ⟨mA, J, _⟩ := ins_get I.hok h
  obtain ⟨od, J, _⟩ := J.look
  exact ⟨od, J⟩
/-- len(o), o's class with an own __len__ -/
def rLenO (C : Addr) (sp : Sp) (E : XK) : List V → Hp → VK → Prop := fun xs H Q => ∃ a dx fs, xs = [.ref a] ∧ H a = some (.ins C dx fs) ∧ sp [.ref a] H (fun v H' => ∃ n : Int, v = .int n ∧ 0 ≤ n ∧ n < 2 ^ 63 ∧ Q (.int n) H') E
theorem call_lenO {CX : CXT} {k : Nat} {C f : Addr} {fd : FuncData} {ps : List Str} {sp : Sp} {E : XK} (m : Spm X.K C "__len__" f) (F : FnOk X.prog X.w X.K X.mg X.base CX k f fd ps sp) (hr : Room (k + 1) X.A) (hb : Binds X.K fd ps []) (hx : Passes CX X E) :
    CallR X (.builtin "len") (rLenO C sp E) := by
  intro pins s σ H xs us Q I rv h
  obtain ⟨a, dx, fs, rfl, ha, q⟩ := h
  obtain ⟨u, rfl, ru⟩ := vals1 rv
  cases ru
  obtain ⟨od, J⟩ := inst_of I ha
  obtain ⟨mm, hF⟩ := I.fr
  refine PySem.W.len_K hF I.ok.mod.kin J m.at_ m.fn (thn (run_in F hr.in1 rfl hb hx I rv q) fun v s' ⟨x, H', I', rx, n, ex, h0, h1, q⟩ => ?_)
  subst ex
  obtain ⟨t, rfl⟩ := rx
  exact ⟨⟨h0, h1⟩, .int n, H', I'.tok _, ⟨_, rfl⟩, q⟩
/-- str(o), o's class with an own __str__ -/
def rStrO (C : Addr) (sp : Sp) (E : XK) : List V → Hp → VK → Prop := fun xs H Q => ∃ a dx fs, xs = [.ref a] ∧ H a = some (.ins C dx fs) ∧ sp [.ref a] H (fun v H' => ∃ z : Str, v = .str z ∧ Q (.str z) H') E
theorem call_strO {CX : CXT} {k : Nat} {C f : Addr} {fd : FuncData} {ps : List Str} {sp : Sp} {E : XK} (m : Spm X.K C "__str__" f) (F : FnOk X.prog X.w X.K X.mg X.base CX k f fd ps sp) (hr : Room (k + 2) X.A) (hb : Binds X.K fd ps []) (hx : Passes CX X E) :
    CallR X (.type "str") (rStrO C sp E) := by
  intro pins s σ H xs us Q I rv h
  obtain ⟨a, dx, fs, rfl, ha, q⟩ := h
  obtain ⟨u, rfl, ru⟩ := vals1 rv
  cases ru
  obtain ⟨od, J⟩ := inst_of I ha
  refine PySem.W.kso_call hr.in1.in1.units0 I.kIn J m.at_ m.fn (thn (run_in F hr.in1.in1 rfl hb hx I rv q) fun v s' ⟨x, H', I', rx, z, ex, q⟩ => ?_)
  subst ex
  obtain ⟨t, rfl⟩ := rx
  exact ⟨.str z, H', I', ⟨_, rfl⟩, q⟩
/-- the type of a value, for a comparison with an own instance -/
theorem type_of {x : V} {u t : Value} (I : Inv X pins σ H s) (rx : RelV x u) (ty : TyX X.K H x t) : PySem.W.Looks (model X.prog X.w) s.heap (typeOf u) t := by
  obtain ⟨P, Z, p, _⟩ := kit_of I rx ty
  exact Z.ty _ _ I.kIn p
/-- o == y, o's class with an own __eq__ -/
def rEqO (K : PySem.W.Frag) (C : Addr) (sp : Sp) (E : XK) : R2 := fun x y H Q => ∃ a dx fs t, x = .ref a ∧ H a = some (.ins C dx fs) ∧ TyX K H y t ∧ PySem.W.notFirst K C t = true ∧ sp [.ref a, y] H (fun v H' => ∃ b : Bool, v = .bl b ∧ Q (.bl b) H') E
theorem op_eqO {CX : CXT} {k : Nat} {C f : Addr} {fd : FuncData} {ps : List Str} {sp : Sp} {E : XK} (m : Spm X.K C "__eq__" f) (F : FnOk X.prog X.w X.K X.mg X.base CX k f fd ps sp) (hr : Room k X.A) (hb : Binds X.K fd ps []) (hx : Passes CX X E) :
    OpR X (compareOp .Eq) (rEqO X.K C sp E) := by
  intro pins s σ H x y v u Q I rx ry h
  obtain ⟨a, dx, fs, t, rfl, ha, ty, nf, q⟩ := h
  cases rx
  obtain ⟨od, J⟩ := inst_of I ha
  obtain ⟨mm, hF⟩ := I.fr
  show wpAny (model X.prog X.w) X.A (richCompare .Eq (.ref a) u) (EP X pins σ Q) X.xe s
  refine PySem.W.cmp_K (op := .Eq) (tb := t) hr.units0 hF I.ok.mod.kin J (type_of I ry ty) nf m.at_ m.fn (thn (run_in F hr rfl hb hx I (Paired.cons (show RelV (.ref a) (Value.ref a) from rfl) (Paired.cons ry .nil)) q) fun v s' ⟨x, H', I', rx, b, ex, q⟩ => ?_)
  subst ex
  cases rx
  exact ⟨.bl b, H', I', rfl, q⟩
/-- o != y, o's class with an own __eq__ and no own __ne__ -/
structure Nem (K : PySem.W.Frag) (C : Addr) : Prop where
  ne : PySem.W.findIn K (.ref C) "__ne__" = some (some (.builtin "object.__ne__"))
  ob : PySem.W.mroIn K C (.type "object") = some true
def rNeO (K : PySem.W.Frag) (C : Addr) (sp : Sp) (E : XK) : R2 := fun x y H Q => ∃ a dx fs t, x = .ref a ∧ H a = some (.ins C dx fs) ∧ TyX K H y t ∧ PySem.W.notFirst K C t = true ∧ sp [.ref a, y] H (fun v H' => ∃ b : Bool, v = .bl b ∧ Q (.bl (!b)) H') E
theorem op_neO {CX : CXT} {k : Nat} {C f : Addr} {fd : FuncData} {ps : List Str} {sp : Sp} {E : XK} (m : Spm X.K C "__eq__" f) (n : Nem X.K C) (F : FnOk X.prog X.w X.K X.mg X.base CX k f fd ps sp) (hr : Room (k + 1) X.A) (hb : Binds X.K fd ps []) (hx : Passes CX X E) :
    OpR X (compareOp .NotEq) (rNeO X.K C sp E) := by
  intro pins s σ H x y v u Q I rx ry h
  obtain ⟨a, dx, fs, t, rfl, ha, ty, nf, q⟩ := h
  cases rx
  obtain ⟨od, J⟩ := inst_of I ha
  obtain ⟨mm, hF⟩ := I.fr
  show wpAny (model X.prog X.w) X.A (richCompare .NotEq (.ref a) u) (EP X pins σ Q) X.xe s
  refine PySem.W.ne_K (tb := t) hr.units0 hr.in1.units0 hF I.ok.mod.kin J (type_of I ry ty) nf n.ne n.ob m.at_ m.fn (thn (run_in F hr.in1 rfl hb hx I (Paired.cons (show RelV (.ref a) (Value.ref a) from rfl) (Paired.cons ry .nil)) q) fun v s' ⟨x, H', I', rx, b, ex, q⟩ => ?_)
  subst ex
  cases rx
  exact ⟨b, rfl, .bl (!b), H', I', rfl, q⟩
end
end Rl

set_option Elab.async false
set_option linter.all false
set_option maxRecDepth 100000
set_option maxHeartbeats 4000000
/-! One rule for calls of own defs, classes, methods, staticmethods, by place and by name. -/
namespace Rl
open PySem PySem.Spec PyProof.Rows L2
/-- what the arguments come to: those by place, those by name -/
abbrev TC := L2.St → Hp → (List V → List V → Hp → Prop) → Prop
def tcP (ta : TA) : TC := fun σ H R => ta σ H fun vs H1 => R vs [] H1
def tcK (tk : TA) : TC := fun σ H R => tk σ H fun zs H1 => R [] zs H1
def tcPK (ta tk : TA) : TC := fun σ H R => ta σ H fun vs H1 => tk σ H1 fun zs H2 => R vs zs H2
structure PC (X : Cx) (es : List Expr) (kws : List Keyword) (ks : List Str) (t : TC) : Prop where
  run : ∀ (pos : Pos) (f : Value) (first : List Value) (pins : List (Addr × Obj)) (s : Shared) (σ : L2.St) (H : Hp) (R : List V → List V → Hp → Prop) (Q : Value → Shared → Prop), PySem.W.keepIn X.K f = true → Inv X pins σ H s → t σ H R →
    (∀ us ws vs zs H' s', Inv X pins σ H' s' → Vals vs us → Vals zs ws → R vs zs H' → wpAny (model X.prog X.w) X.A (call f (first ++ us) (ks.zip ws)) Q X.xe s') →
    wpAny (model X.prog X.w) X.A (callWith pos f first (backTo pos (starEach es X.env)) (backToKw pos (keywordEach kws X.env))) Q X.xe s
section
variable {X : Cx} {e : Expr} {es : List Expr} {kws : List Keyword} {ks : List Str} {t tk : TA}
theorem pc_0 : PC X [] [] [] (tcP tNil) := ⟨fun pos f first pins s σ H R Q hk I h g => PySem.W.callWith_K0 I.kIn hk (g [] [] [] [] H s I .nil .nil h)⟩
theorem pc_p (ha : PA X (e :: es) t) (hpl : ∀ pos, (backTo pos (starEach es X.env)).any (·.1) = false := by intro _; rfl) (he : starEach (e :: es) X.env = (false, eval e X.env) :: starEach es X.env := by rfl) : PC X (e :: es) [] [] (tcP t) :=
  ⟨fun pos f first pins s σ H R Q hk I h g => PySem.W.callWith_K (first := first) (h₀ := X.base) I.ok.mod.kin hk (thn (ha.run pos pins s σ H _ I h) fun us s1 ⟨vs, H1, I1, r, q⟩ => ⟨I1.kIn, g us [] vs [] H1 s1 I1 r .nil q⟩) he (hpl pos)⟩
theorem pc_k (hkw : PK X kws tk) (hall : ∀ pos, (backToKw pos (keywordEach kws X.env)).all (·.1.isSome) = true := by intro _; rfl) (hks : ∀ pos, (backToKw pos (keywordEach kws X.env)).filterMap (·.1) = ks := by intro _; rfl)
    (hpl : ∀ pos, ((backTo pos (starEach [] X.env)).any (·.1) || (backToKw pos (keywordEach kws X.env)).any (·.1.isNone)) = false := by intro _; rfl) : PC X [] kws ks (tcK tk) :=
  ⟨fun pos f first pins s σ H R Q hk I h g => by
    refine PySem.W.callWith_KW0 (first := first) (h₀ := X.base) I.ok.mod.kin hk (hall pos) ?_ (hpl pos)
    refine thn (hkw.run pos pins s σ H _ I h) fun ws s2 ⟨zs, H2, I2, rz, q2⟩ => ⟨I2.kIn, ?_⟩
    rw [hks pos]
    exact g [] ws [] zs H2 s2 I2 .nil rz q2⟩
theorem pc_pk (ha : PA X (e :: es) t) (hkw : PK X kws tk) (hall : ∀ pos, (backToKw pos (keywordEach kws X.env)).all (·.1.isSome) = true := by intro _; rfl) (hks : ∀ pos, (backToKw pos (keywordEach kws X.env)).filterMap (·.1) = ks := by intro _; rfl)
    (he : starEach (e :: es) X.env = (false, eval e X.env) :: starEach es X.env := by rfl) (hpl : ∀ pos, ((backTo pos (starEach (e :: es) X.env)).any (·.1) || (backToKw pos (keywordEach kws X.env)).any (·.1.isNone)) = false := by intro _; rfl) : PC X (e :: es) kws ks (tcPK t tk) :=
  ⟨fun pos f first pins s σ H R Q hk I h g => by
    refine PySem.W.callWith_KW (first := first) (h₀ := X.base) I.ok.mod.kin hk (hall pos) (thn (ha.run pos pins s σ H _ I h) fun us s1 ⟨vs, H1, I1, r, q⟩ => ?_) (hpl pos) he
    refine thn (hkw.run pos pins s1 σ H1 _ I1 q) fun ws s2 ⟨zs, H2, I2, rz, q2⟩ => ⟨I2.kIn, ?_⟩
    rw [hks pos]
    exact g us ws vs zs H2 s2 I2 r rz q2⟩
end
/-- how the arguments become the parameters -/
structure Bn (K : PySem.W.Frag) (fd : FuncData) (ps : List Str) (n : Nat) (ks : List Str) (g : List Value → List Value → List Value) (gV : List V → List V → List V) : Prop where
  to : ∀ (s : Shared) (us ws : List Value), K.In s.heap → us.length = n → ws.length = ks.length → BindsTo s fd ⟨us, ks.zip ws⟩ (ps.zip (g us ws))
  rel : ∀ {vs : List V} {us : List Value} {zs : List V} {ws : List Value}, Vals vs us → Vals zs ws → Vals (gV vs zs) (g us ws)
/-- the values at some places -/
def pick {α : Type} (d : α) (π : List Nat) (us ws : List α) : List α := π.map fun i => (us ++ ws).getD i d
theorem Vals.pick {vs zs : List V} {us ws : List Value} (π : List Nat) (r : Vals vs us) (q : Vals zs ws) : Vals (Rl.pick V.non π vs zs) (Rl.pick Value.none π us ws) := by
  have a := r.append q
  induction π with
  | nil => exact .nil
  | cons i π ih =>
    refine .cons ?_ ih
    show RelV ((vs ++ zs).getD i V.non) ((us ++ ws).getD i Value.none)
    cases e : (vs ++ zs)[i]? with
    | some x =>
      obtain ⟨u, e2, rx⟩ := a.get e
      rw [List.getD_eq_getElem?_getD, List.getD_eq_getElem?_getD, e, e2]
      exact rx
    | none =>
      rw [List.getD_eq_getElem?_getD, List.getD_eq_getElem?_getD, e, a.none_of e]
      rfl
theorem bn_pos {K : PySem.W.Frag} {fd : FuncData} {ps : List Str} {n : Nat} (h : ∀ (s : Shared) (us : List Value), us.length = n → BindsTo s fd ⟨us, []⟩ (ps.zip us)) : Bn K fd ps n [] (fun us _ => us) (fun vs _ => vs) where
  to := fun s us ws _ h1 h2 => h s us h1
  rel := fun r _ => r
theorem bn_kw {K : PySem.W.Frag} {fd : FuncData} {ps ks : List Str} {n : Nat} (π : List Nat) (h : ∀ (s : Shared) (us ws : List Value), us.length = n → ws.length = ks.length → BindsTo s fd ⟨us, ks.zip ws⟩ (ps.zip (pick Value.none π us ws))) : Bn K fd ps n ks (pick Value.none π) (pick V.non π) where
  to := fun s us ws _ h1 h2 => h s us ws h1 h2
  rel := fun r q => Vals.pick π r q
theorem bindsK {K : PySem.W.Frag} {x qual : Str} {params : Arguments} {body : List Stmt} {scope : Scope} {kws : List (Str × V)} {f : Addr} {fd : FuncData} {ps ks : List Str} (π : List Nat) {n : Nat} (F : FunD K x qual params body scope [] kws f fd)
    (h : ∀ (kV doc pm : Value) (an : Option Addr) (cdv ct : Value) (us ws : List Value), us.length = n → ws.length = ks.length → bindArgs (PySem.W.fnOf x qual params body scope .none kV doc pm an cdv ct) ⟨us, ks.zip ws⟩ = pure (ps.zip (pick Value.none π us ws))) :
    Bn K fd ps n ks (pick Value.none π) (pick V.non π) := by
  obtain ⟨oc, od, dV, kV, doc, pm, an, cdv, ct, osl, rfl, lk, hcd, hD, hK⟩ := F.ex
  rcases hD with ⟨_, rfl⟩ | ⟨e, _⟩
  · exact bn_kw π fun s us ws h1 h2 => .of_eq (h kV doc pm an cdv ct us ws h1 h2)
  · exact absurd rfl e
theorem bindsP {K : PySem.W.Frag} {x qual : Str} {params : Arguments} {body : List Stmt} {scope : Scope} {kws : List (Str × V)} {f : Addr} {fd : FuncData} {ps : List Str} {n : Nat} (F : FunD K x qual params body scope [] kws f fd)
    (h : ∀ (kV doc pm : Value) (an : Option Addr) (cdv ct : Value) (us : List Value), us.length = n → bindArgs (PySem.W.fnOf x qual params body scope .none kV doc pm an cdv ct) ⟨us, []⟩ = pure (ps.zip us)) :
    Bn K fd ps n [] (fun us _ => us) (fun vs _ => vs) := by
  obtain ⟨oc, od, dV, kV, doc, pm, an, cdv, ct, osl, rfl, lk, hcd, hD, hK⟩ := F.ex
  rcases hD with ⟨_, rfl⟩ | ⟨e, _⟩
  · exact bn_pos fun s us h1 => .of_eq (h kV doc pm an cdv ct us h1)
  · exact absurd rfl e
/-- f(..) -/
def tFn (n m : Nat) (sp : Sp) (gV : List V → List V → List V) (E : XK) (t : TC) : TE := fun σ H Q => t σ H fun vs zs H1 => vs.length = n ∧ zs.length = m ∧ sp (gV vs zs) H1 Q E
/-- o.m(..) -/
def tMt (C : Addr) (m : Str) (n k : Nat) (sp : Sp) (gV : List V → List V → List V) (E : XK) (ta : TE) (t : TC) : TE := fun σ H Q => ta σ H fun x H1 => ∃ a dx fs, x = .ref a ∧ H1 a = some (.ins C dx fs) ∧ fs.lookup m = none ∧
  t σ H1 fun vs zs H2 => vs.length = n ∧ zs.length = k ∧ sp (gV (x :: vs) zs) H2 Q E
/-- C(..) -/
def tNew (C : Addr) (n m : Nat) (sp : Sp) (gV : List V → List V → List V) (E : XK) (t : TC) : TE := fun σ H Q => t σ H fun vs zs H1 => vs.length = n ∧ zs.length = m ∧ ∀ x dx, H1 x = none → H1 dx = none → dx ≠ x →
  sp (gV (.ref x :: vs) zs) (upd (upd H1 dx (.own x)) x (.ins C dx [])) (fun v H2 => v = .non ∧ Q (.ref x) H2) E
/-- a staticmethod of the class at C: its record at p, its def at g -/
structure Stm (K : PySem.W.Frag) (C : Addr) (m : Str) (g : Addr) : Prop where
  ex : ∃ mc p rest, PySem.W.readsIn K C mc = true ∧ PySem.W.specialIn K (.ref C) "__getattribute__" = some (some (.builtin "type.__getattribute__")) ∧ PySem.W.findCls K (.ref C) mc m = some (.get (.builtin "staticmethod.__get__") (.ref p) .none (.ref C)) ∧
    PySem.W.recIn K p "staticmethod" = some (.ref g :: rest)
  kp : PySem.W.keepIn K (.ref g) = true
section
variable {X : Cx} {CX : CXT} {k n : Nat} {f C : Addr} {fd : FuncData} {ps ks : List Str} {sp : Sp} {E : XK} {x m : Str} {p pos apos : Pos} {o : Expr} {es : List Expr} {kws : List Keyword} {ta : TE} {t : TC} {g : List Value → List Value → List Value} {gV : List V → List V → List V}
theorem run_f {pins : List (Addr × Obj)} {σ : L2.St} {H : Hp} {s : Shared} {Q : VK} {us ws : List Value} {vs zs : List V} (F : FnOk X.prog X.w X.K X.mg X.base CX k f fd ps sp) (hr : Room k X.A) (hb : Bn X.K fd ps n ks g gV) (hx : Passes CX X E)
    (I : Inv X pins σ H s) (r : Vals vs us) (rz : Vals zs ws) (l1 : vs.length = n) (l2 : zs.length = ks.length) (h : sp (gV vs zs) H Q E) : wpAny (model X.prog X.w) X.A (call (.ref f) us (ks.zip ws)) (EP X pins σ Q) X.xe s :=
  run_fnN F hr ⟨hb.to, hb.rel⟩ hx I r rz l1 l2 h
theorem pe_fn (F : FnOk X.prog X.w X.K X.mg X.base CX k f fd ps sp) (hr : Room k X.A) (hg : Gl X x) (hm : X.mg x = some (.ref f)) (hk : PySem.W.keepIn X.K (.ref f) = true) (hb : Bn X.K fd ps n ks g gV) (hx : Passes CX X E) (ha : PC X es kws ks t)
    (hdb : (x == ("__debug__" : Str)) = false := by decide) : PE X (.Call (.Name x p) es kws pos) (tFn n ks.length sp gV E t) := by
  refine ⟨fun pins s σ H Q I h => ?_⟩
  refine wpAny_Call_Name_kw (ld_glob I hg hm ?_ hdb)
  exact ha.run pos (.ref f) [] pins s σ H _ _ hk I h fun us ws vs zs H' s' I' r rz ⟨l1, l2, q⟩ => run_f F hr hb hx I' r rz l1 l2 q
theorem pe_new (M : Mk X.K C f) (F : FnOk X.prog X.w X.K X.mg X.base CX k f fd ps sp) (hr : Room (k + 1) X.A) (hg : Gl X x) (hm : X.mg x = some (.ref C)) (hb : Bn X.K fd ps (n + 1) ks g gV) (hx : Passes CX X E) (ha : PC X es kws ks t)
    (hdb : (x == ("__debug__" : Str)) = false := by decide) : PE X (.Call (.Name x p) es kws pos) (tNew C n ks.length sp gV E t) := by
  refine ⟨fun pins s σ H Q I h => ?_⟩
  refine wpAny_Call_Name_kw (ld_glob I hg hm ?_ hdb)
  exact ha.run pos (.ref C) [] pins s σ H _ _ M.kp I h fun us ws vs zs H' s' I' r rz ⟨l1, l2, q⟩ => run_makeN M F hr ⟨hb.to, hb.rel⟩ hx I' r rz l1 l2 q
theorem pe_mt {pl : Sem Bool} (he : PE X o ta) (c : Cls X.K C) (hm : Meth X.K C m f) (F : FnOk X.prog X.w X.K X.mg X.base CX k f fd ps sp) (hr : Room k X.A) (hb : Bn X.K fd ps (n + 1) ks g gV) (hx : Passes CX X E) (ha : PC X es kws ks t)
    (ht : eval (.Call (.Attribute o m apos) es kws pos) X.env = (do
      let ov ← eval o X.env
      standAt apos.atName
      let (f, first) ← holding [ov] (getMethod ov m pl)
      callWith pos f first (backTo pos (starEach es X.env)) (backToKw pos (keywordEach kws X.env))) := by rfl) :
    PE X (.Call (.Attribute o m apos) es kws pos) (tMt C m n ks.length sp gV E ta t) := by
  refine ⟨fun pins s σ H Q I h => ?_⟩
  refine PySem.W.methodCall_KW (pl := pl) (thn (he.run pins s σ H _ I h) fun u s1 ⟨x, H1, I1, rx, a, dx, fs, ex, ea, l, q⟩ => ?_) ht
  subst ex
  obtain rfl : u = Value.ref a := rx
  refine getmeth_ok I1 ea c hm l ?_
  exact ha.run pos (.ref f) [.ref a] pins s1 σ H1 _ _ hm.kp I1 q fun us ws vs zs H' s' I' r rz ⟨l1, l2, q⟩ =>
    run_f (us := .ref a :: us) (vs := .ref a :: vs) F hr hb hx I' (.cons rfl r) rz (congrArg Nat.succ l1) l2 q
theorem pe_st {pl : Sem Bool} (S : Stm X.K C m f) (hg : Gl X x) (hm : X.mg x = some (.ref C)) (F : FnOk X.prog X.w X.K X.mg X.base CX k f fd ps sp) (hr : Room k X.A) (hb : Bn X.K fd ps n ks g gV) (hx : Passes CX X E) (ha : PC X es kws ks t)
    (hdb : (x == ("__debug__" : Str)) = false := by decide)
    (ht : eval (.Call (.Attribute (.Name x p) m apos) es kws pos) X.env = (do
      let ov ← eval (.Name x p) X.env
      standAt apos.atName
      let (f, first) ← holding [ov] (getMethod ov m pl)
      callWith pos f first (backTo pos (starEach es X.env)) (backToKw pos (keywordEach kws X.env))) := by rfl) :
    PE X (.Call (.Attribute (.Name x p) m apos) es kws pos) (tFn n ks.length sp gV E t) := by
  refine ⟨fun pins s σ H Q I h => ?_⟩
  refine PySem.W.methodCall_KW (pl := pl) (ld_glob I hg hm ?_ hdb) ht
  obtain ⟨mc, pp, rest, rd, ga, fc, rc⟩ := S.ex
  refine PySem.W.method_cls I.kIn ga ?_
  refine PySem.W.cls_bind I.kIn rd fc ?_
  refine wpAny_call (PySem.W.sm_get (s := { s with toks := s.toks + 1 }) I.kIn rc (PySem.W.handed_on rfl ?_))
  exact ha.run pos (.ref f) [] pins _ σ H _ _ S.kp (I.tok _) h fun us ws vs zs H' s' I' r rz ⟨l1, l2, q⟩ => run_f F hr hb hx I' r rz l1 l2 q
end
/-! ### joins of readings -/
section
variable {X : Cx}
theorem pe_or2 {e : Expr} {t u : TE} (h1 : PE X e t) (h2 : PE X e u) : PE X e (fun σ H Q => t σ H Q ∨ u σ H Q) := ⟨fun pins s σ H Q I h => h.elim (h1.run pins s σ H Q I) (h2.run pins s σ H Q I)⟩
theorem pi_or2 {tg e : Expr} {t u : TI} (h1 : PI X tg e t) (h2 : PI X tg e u) : PI X tg e (fun σ H R => t σ H R ∨ u σ H R) := ⟨fun pins s σ H R I h => h.elim (h1.run pins s σ H R I) (h2.run pins s σ H R I)⟩
theorem CallR.or {f : Value} {r r' : List V → Hp → VK → Prop} (h : CallR X f r) (h' : CallR X f r') : CallR X f (fun xs H Q => r xs H Q ∨ r' xs H Q) := fun pins s σ H xs us Q I rv q => q.elim (h pins s σ H xs us Q I rv) (h' pins s σ H xs us Q I rv)
/-! ### lists joined that may be locked -/
def rCatR : R2 := fun x y H Q => ∃ l b xs zs, x = .ref l ∧ y = .ref b ∧ Rd H l (.lst xs) ∧ Rd H b (.lst zs) ∧ xs.length + zs.length ≤ sizeLine ∧ ∀ p, H p = none → Q (.ref p) (upd H p (.lst (xs ++ zs)))
theorem rdM {pins : List (Addr × Obj)} {σ : L2.St} {H : Hp} {s : Shared} {l : Addr} {xs : List V} (I : Inv X pins σ H s) (h : Rd H l (.lst xs)) :
    xs.length ≤ sizeLine ∧ ∃ (its : List Value) (n : Nat), Vals xs its ∧ xs.length = its.length ∧ s.heap.get? l = some { cls := .type "list", data := .seq its.toArray n } := by
  obtain ⟨z, its, n, r, e⟩ := h.ok I.hok
  exact ⟨z, its, n, r, r.length, e⟩
theorem op_catR : OpR X (binaryOp .Add) rCatR := by
  intro pins s σ H x y v u Q I rx ry h
  obtain ⟨l, b, xs, zs, rfl, rfl, hH, hB, hz, q⟩ := h
  cases rx
  cases ry
  obtain ⟨z, its, n, r, hl, e⟩ := rdM I hH
  obtain ⟨z2, its2, n2, r2, hl2, e2⟩ := rdM I hB
  refine PySem.P.add_list e e2 ?_ (by rw [List.size_toArray, List.size_toArray]; omega)
  have ea : its.toArray ++ its2.toArray = (its ++ its2).toArray := by simp
  rw [ea]
  exact ⟨.ref _, _, I.lnew (t' := s.toks) (r.append r2) (by rw [List.length_append]; omega), rfl, q _ I.fresh⟩
def rExtR : V → List V → Hp → VK → Prop := fun x vs H Q => ∃ l b xs zs, x = .ref l ∧ vs = [.ref b] ∧ H l = some (.lst xs) ∧ Rd H b (.lst zs) ∧ xs.length + zs.length ≤ sizeLine ∧ Q .non (upd H l (.lst (xs ++ zs)))
theorem mt_extR : MtM X "list.extend" rExtR := by
  intro pins s σ H x vs v us Q I rx rv h
  obtain ⟨l, b, xs, zs, rfl, rfl, hH, hB, hz, q⟩ := h
  cases rx
  obtain ⟨u, rfl, ru⟩ := rv.one
  cases ru
  obtain ⟨z, its, n, r, hl, e⟩ := I.lstM hH
  obtain ⟨z2, its2, n2, r2, hl2, e2⟩ := rdM I hB
  have hsz : its.toArray.size + its2.toArray.size ≤ sizeLine := by rw [List.size_toArray, List.size_toArray]; omega
  have hlong : ¬ (!its.toArray.isEmpty && Builtin.List.listTooLong (its.toArray.size + its2.toArray.size)) = true := by
    rw [notLongL hsz, Bool.and_false]
    exact Bool.false_ne_true
  refine call_meets F.slot_list_extend ⟨_, e, rfl⟩ F.entry_list_extend (F.args_list_extend_2 _ _)
    (AutoSeq1.list_extend_list_list_0 l its.toArray n b its2.toArray n2 hlong (by rw [List.size_toArray]; omega) (by omega)) ⟨e, e2, ?_⟩
  refine ⟨.non, _, I.lset (its' := its ++ its2) hH e (by simp) (r.append r2) ?_, rfl, q⟩
  rw [List.length_append]
  omega
end
end Rl

set_option Elab.async false
set_option linter.all false
set_option maxRecDepth 100000
set_option maxHeartbeats 4000000
/-! The top's facts of my own: staticmethods, special methods, isinstance, own equality. -/
namespace Rl
open PySem PySem.Spec PyProof.Rows L2
open He (ga ma eqO eqO_ok ba)
/-- where a def stands -/
inductive Loc where
  | top (x : Str) | meth (C m : Str) | stat (C m : Str)
/-- the record of a staticmethod, its def -/
def smRec (K : PySem.W.Frag) (C : Addr) (m : Str) : Addr := match PySem.W.findCls K (.ref C) (.type "type") m with
  | some (.get _ (.ref p) _ _) => p
  | _ => 0
def smDef (K : PySem.W.Frag) (C : Addr) (m : Str) : Addr := match PySem.W.recIn K (smRec K C m) "staticmethod" with
  | some (.ref g :: _) => g
  | _ => 0
def ad (K : PySem.W.Frag) : Loc → Addr
  | .top x => ga K x
  | .meth C m => ma K (ga K C) m
  | .stat C m => smDef K (ga K C) m
structure Df where
  loc : Loc
  name : Str
  qual : Str
  params : Arguments
  body : List Stmt
  scope : Scope
abbrev FnW : Type := Option (Str × Str × Arguments × FuncBody × Scope × Addr × List (Str × Addr) × Addr)
def fnW (K : PySem.W.Frag) (a : Addr) : FnW := match K.lookup a with
  | some ⟨_, _, .func fd, _⟩ => some (fd.name, fd.qualname, fd.params, fd.body, fd.scope, fd.globals, fd.closure, fd.builtins)
  | _ => none
def Df.val (d : Df) : FnW := some (d.name, d.qual, d.params, .stmts d.body, d.scope, mainGlobals, [], builtinsNs)
def Df.ok (K : PySem.W.Frag) (d : Df) : Bool := PySem.W.keepIn K (.ref (ad K d.loc)) && (match K.lookup (ad K d.loc) with
  | some ⟨_, _, .func fd, _⟩ => PySem.W.codeIn K fd.code d.qual && (He.dflB K fd.defaults [] && He.kwdB K fd.kwdefaults [])
  | _ => false)
theorem Df.funD {K : PySem.W.Frag} {d : Df} (e : fnW K (ad K d.loc) = d.val) (c : d.ok K = true) : ∃ fd, FunD K d.name d.qual d.params d.body d.scope [] [] (ad K d.loc) fd := by
  obtain ⟨kp, c2⟩ := ba c
  unfold fnW at e
  cases q : K.lookup (ad K d.loc) with
  | none =>
    rw [q] at c2
    cases c2
  | some o =>
    obtain ⟨oc, od, dt, osl⟩ := o
    rw [q] at c2 e
    cases dt with
    | func fd =>
      obtain ⟨n1, n2, n3, n4, n5, n6, n7, n8, n9, n10, n11, n12, n13, n14, n15⟩ := fd
      have e2 : (some (n1, n2, n3, n4, n5, n6, n7, n15) : FnW) = some (d.name, d.qual, d.params, .stmts d.body, d.scope, mainGlobals, [], builtinsNs) := e
      simp only [Option.some.injEq, Prod.mk.injEq] at e2
      obtain ⟨h1, h2, h3, h4, h5, h6, h7, h8⟩ := e2
      subst h1 h2 h3 h4 h5 h6 h7 h8
      have c3 : (PySem.W.codeIn K n13 d.qual && (He.dflB K n8 [] && He.kwdB K n9 [])) = true := c2
      obtain ⟨k1, k2⟩ := ba c3
      obtain ⟨k3, k4⟩ := ba k2
      exact ⟨_, ⟨oc, od, n8, n9, n10, n11, n12, n13, n14, osl, rfl, q, k1, He.dflB_ok k3, He.kwdB_ok k4⟩, kp⟩
    | _ => cases c2
/-- facts -/
inductive Fb where
  | he (f : He.Fa)
  | stm (C m : Str)
  | spm (C m : Str)
  | nem (C : Str)
  /-- an instance's type can be told -/
  | tyi (C : Str)
  /-- isinstance of a type, of an own class -/
  | kit (t : String) (C : Str) (b : Bool)
  | kitO (C C' : Str) (b : Bool)
  | kitT (C : Str) (t : String) (b : Bool)
  | nf (t : String) (C : Str)
  | nfO (C' C : Str)
  | tup (x : Str) (vs : List He.Dv)
def Fb.ok (K : PySem.W.Frag) : Fb → Bool
  | .he f => f.ok K
  | .stm C m => PySem.W.readsIn K (ga K C) (.type "type") && (eqO (PySem.W.specialIn K (.ref (ga K C)) "__getattribute__") (some (some (.builtin "type.__getattribute__"))) && ((match PySem.W.findCls K (.ref (ga K C)) (.type "type") m with
      | some (.get g p n c) => decide (g = .builtin "staticmethod.__get__") && (decide (p = .ref (smRec K (ga K C) m)) && (decide (n = .none) && decide (c = .ref (ga K C))))
      | _ => false) && ((match PySem.W.recIn K (smRec K (ga K C) m) "staticmethod" with
      | some (g :: _) => decide (g = .ref (smDef K (ga K C) m))
      | _ => false) && PySem.W.keepIn K (.ref (smDef K (ga K C) m)))))
  | .spm C m => eqO (PySem.W.findIn K (.ref (ga K C)) m) (some (some (.ref (ma K (ga K C) m)))) && PySem.W.isFn K (.ref (ma K (ga K C) m))
  | .nem C => eqO (PySem.W.findIn K (.ref (ga K C)) "__ne__") (some (some (.builtin "object.__ne__"))) && decide (PySem.W.mroIn K (ga K C) (.type "object") = some true)
  | .tyi C => eqO (PySem.W.findIn K (.ref (ga K C)) "__class__") (some (some (.builtin "object.__class__"))) && (eqO (PySem.W.specialIn K (.builtin "object.__class__") "__get__") (some (some (.builtin "getset_descriptor.__get__"))) &&
      (decide (PySem.W.takesIn K (.builtin "object.__class__") = some true) && decide (PySem.W.mroIn K (ga K C) (.type "object") = some true)))
  | .kit t C b => decide (PySem.W.kitOne K (.type t) (.ref (ga K C)) = some b)
  | .kitO C C' b => decide (PySem.W.kitOne K (.ref (ga K C)) (.ref (ga K C')) = some b)
  | .kitT C t b => decide (PySem.W.kitOne K (.ref (ga K C)) (.type t) = some b)
  | .nf t C => PySem.W.notFirst K (ga K C) (.type t)
  | .nfO C' C => PySem.W.notFirst K (ga K C) (.ref (ga K C'))
  | .tup x vs => He.tupB K x vs
theorem stm_ok {K : PySem.W.Frag} {C m : Str} (c : (Fb.stm C m).ok K = true) : Stm K (ga K C) m (ad K (.stat C m)) := by
  obtain ⟨c1, c⟩ := ba c
  obtain ⟨c2, c⟩ := ba c
  obtain ⟨c3, c⟩ := ba c
  obtain ⟨c4, c5⟩ := ba c
  refine ⟨?_, c5⟩
  cases e : PySem.W.findCls K (.ref (ga K C)) (.type "type") m with
  | none => rw [e] at c3; cases c3
  | some o =>
    rw [e] at c3
    cases o with
    | get g p n c0 =>
      obtain ⟨d1, d⟩ := ba (show (decide (g = .builtin "staticmethod.__get__") && (decide (p = .ref (smRec K (ga K C) m)) && (decide (n = .none) && decide (c0 = .ref (ga K C))))) = true from c3)
      obtain ⟨d2, d⟩ := ba d
      obtain ⟨d3, d4⟩ := ba d
      have e1 := of_decide_eq_true d1
      have e2 := of_decide_eq_true d2
      have e3 := of_decide_eq_true d3
      have e4 := of_decide_eq_true d4
      cases q : PySem.W.recIn K (smRec K (ga K C) m) "staticmethod" with
      | none => rw [q] at c4; cases c4
      | some l =>
        rw [q] at c4
        cases l with
        | nil => cases c4
        | cons g2 rest =>
          have e5 := of_decide_eq_true (show decide (g2 = .ref (smDef K (ga K C) m)) = true from c4)
          refine ⟨.type "type", smRec K (ga K C) m, rest, c1, eqO_ok c2, ?_, ?_⟩
          · rw [e, e1, e2, e3, e4]
          · rw [q, e5]; rfl
    | _ => cases c3
theorem spm_ok {K : PySem.W.Frag} {C m : Str} (c : (Fb.spm C m).ok K = true) : Spm K (ga K C) m (ad K (.meth C m)) := by
  obtain ⟨c1, c2⟩ := ba c
  exact ⟨eqO_ok c1, c2⟩
theorem nem_ok {K : PySem.W.Frag} {C : Str} (c : (Fb.nem C).ok K = true) : Nem K (ga K C) := by
  obtain ⟨c1, c2⟩ := ba c
  exact ⟨eqO_ok c1, of_decide_eq_true c2⟩
/-- what of an own class makes its instances' type known -/
structure Tyi (K : PySem.W.Frag) (C : Addr) : Prop where
  cl : Cls K C
  ha : PySem.W.findIn K (.ref C) "__class__" = some (some (.builtin "object.__class__"))
  hn : PySem.W.specialIn K (.builtin "object.__class__") "__get__" = some (some (.builtin "getset_descriptor.__get__"))
  ht : PySem.W.takesIn K (.builtin "object.__class__") = some true
  hm : PySem.W.mroIn K C (.type "object") = some true
theorem tyi_ok {K : PySem.W.Frag} {C : Str} (l : (Fb.he (.cls C)).ok K = true) (c : (Fb.tyi C).ok K = true) : Tyi K (ga K C) := by
  obtain ⟨c1, c⟩ := ba c
  obtain ⟨c2, c⟩ := ba c
  obtain ⟨c3, c4⟩ := ba c
  exact ⟨He.cls_ok l, eqO_ok c1, eqO_ok c2, of_decide_eq_true c3, of_decide_eq_true c4⟩
theorem Tyi.ty {K : PySem.W.Frag} {C a dx : Addr} {fs : List (Str × V)} {H : Hp} (t : Tyi K C) (h : H a = some (.ins C dx fs)) : TyX K H (.ref a) (.ref C) := .base (.ins h t.cl t.ha t.hn t.ht t.hm)
/-- the Hook -/
abbrev Al : Type := Bool × List FnW
def obsB (fa : List Fb) (fn : List Df) (K : PySem.W.Frag) : Al := ((fa.all fun f => f.ok K) && fn.all fun d => d.ok K, fn.map fun d => fnW K (ad K d.loc))
def valB (fn : List Df) : Al := (true, fn.map Df.val)
def SaysB (fa : List Fb) (fn : List Df) (K : PySem.W.Frag) : Prop := obsB fa fn K = valB fn
def obsBG (n : Nat) (fa : List Fb) (fn : List Df) (g : Addr → Option Obj) : Al := obsB fa fn (He.frG g (He.asD g n))
def hookB (n : Nat) (fa : List Fb) (fn : List Df) : PySem.W.Hook where
  α := Al
  obs := fun s => obsBG n fa fn s.heap.get?
  val := fun _ => valB fn
  says := fun _ h => ∃ K : PySem.W.Frag, K.In h ∧ SaysB fa fn K
  of := fun _ _ e => ⟨_, He.frG_in, e⟩
  keeps := fun _ _ _ ⟨K, hK, c⟩ k => ⟨K, PySem.W.Frag.In.keeps hK k, c⟩
theorem obsBG_eq {n : Nat} {fa : List Fb} {fn : List Df} {g : Addr → Option Obj} {s : Shared} (h : ∀ a, g a = s.heap.get? a) : obsBG n fa fn g = (hookB n fa fn).obs s := by
  have e : g = s.heap.get? := funext h
  rw [e] <;> rfl
section
variable {fa : List Fb} {fn : List Df} {K : PySem.W.Frag}
theorem SaysB.fact (c : SaysB fa fn K) (i : Nat) {f : Fb} (h : fa[i]? = some f := by rfl) : f.ok K = true := by
  have c1 := (ba (show ((fa.all fun f => f.ok K) && fn.all fun d => d.ok K) = true from congrArg (fun z : Al => z.1) c)).1
  exact List.all_eq_true.mp c1 f (List.mem_of_getElem? h)
theorem SaysB.def_ (c : SaysB fa fn K) (i : Nat) {d : Df} (h : fn[i]? = some d := by rfl) : ∃ fd, FunD K d.name d.qual d.params d.body d.scope [] [] (ad K d.loc) fd := by
  have c2 := (ba (show ((fa.all fun f => f.ok K) && fn.all fun d => d.ok K) = true from congrArg (fun z : Al => z.1) c)).2
  have e : fn.map (fun d => fnW K (ad K d.loc)) = fn.map Df.val := congrArg (fun z : Al => z.2) c
  have e2 : (fn.map fun d => fnW K (ad K d.loc))[i]? = (fn.map Df.val)[i]? := by rw [e]
  rw [List.getElem?_map, List.getElem?_map, h] at e2
  exact Df.funD (Option.some.inj e2) (List.all_eq_true.mp c2 d (List.mem_of_getElem? h))
end
end Rl

set_option Elab.async false
set_option linter.all false
set_option maxRecDepth 100000
set_option maxHeartbeats 4000000
/-! One reading an operator, whatever the values. -/
namespace Rl
open PySem PySem.Spec PyProof.Rows L2
def qAdd (K : PySem.W.Frag) : R2 := fun x y H Q => rI0 (fun i j => .int (i + j)) x y H Q ∨ ((∃ i j, x = .str i ∧ y = .str j ∧ i.length + j.length ≤ sizeLine ∧ Q (.str (i ++ j)) H) ∨ (rCatR x y H Q ∨ rCatA K x y H Q))
def qSub : R2 := rI0 fun i j => .int (i - j)
def qMul : R2 := fun x y H Q => rI CMul (fun i j => .int (i * j)) x y H Q ∨ (rI CMulW (fun i j => .int (i * j)) x y H Q ∨ rRep x y H Q)
def qFd : R2 := fun x y H Q => rI CDivN (fun i j => .int (i.fdiv j)) x y H Q ∨ rI CDivW (fun i j => .int (i / j)) x y H Q
def qMd : R2 := fun x y H Q => rI (fun _ j => 0 < j) (fun i j => .int (i % j)) x y H Q ∨ rI (fun _ j => j ≠ 0) (fun i j => .int (i.fmod j)) x y H Q
def qPw : R2 := rI CPow fun i j => .int (i ^ j.toNat)
def qEq (K : PySem.W.Frag) : R2 := fun x y H Q => rEq x y H Q ∨ rEqD K x y H Q
def qNe (K : PySem.W.Frag) : R2 := fun x y H Q => rNe x y H Q ∨ rNeD K x y H Q
def qLt (K : PySem.W.Frag) : R2 := fun x y H Q => rI0 (fun i j => .bl (decide (i < j))) x y H Q ∨ rLtT K x y H Q
def qLe : R2 := rI0 fun i j => .bl (decide (i ≤ j))
def qGt : R2 := rI0 fun i j => .bl (decide (j < i))
def qGe : R2 := rI0 fun i j => .bl (decide (j ≤ i))
def rInDT (K : PySem.W.Frag) : R2 := fun x y H Q => ∃ d ds, Dp K H x d ∧ Dp K H y (.tuple ds) ∧ SeqAt.shaped d = true ∧ SeqAt.shaped (.tuple ds) = true ∧ Q (.bl (ds.any fun z => PyData.eqv z d)) H
def rNotInDT (K : PySem.W.Frag) : R2 := fun x y H Q => ∃ d ds, Dp K H x d ∧ Dp K H y (.tuple ds) ∧ SeqAt.shaped d = true ∧ SeqAt.shaped (.tuple ds) = true ∧ Q (.bl (!ds.any fun z => PyData.eqv z d)) H
theorem canT {ds : List PyData} (h : SeqAt.shaped (.tuple ds) = true) : PyData.canLayAll0 ds = true := SeqAt.canLay_of_shaped h
theorem op_inDT {X : Cx} (hu : X.A.units + 65 < cLine) : OpR X (compareOp .In) (rInDT X.K) := by
  intro pins s σ H x y v u Q I rx ry h
  obtain ⟨d, ds, hd, he, sd, se, q⟩ := h
  obtain ⟨as, r1⟩ := Dp.reads I d x v hd rx
  obtain ⟨bs, r2⟩ := Dp.reads I (.tuple ds) y u he ry
  exact SeqAt.in_tuple_reads r2 r1 (canT se) (SeqAt.canLay_of_shaped sd) (room_in_shaped sd hu) ⟨.bl _, H, I, rfl, q⟩
theorem op_notInDT {X : Cx} (hu : X.A.units + 65 < cLine) : OpR X (compareOp .NotIn) (rNotInDT X.K) := by
  intro pins s σ H x y v u Q I rx ry h
  obtain ⟨d, ds, hd, he, sd, se, q⟩ := h
  obtain ⟨as, r1⟩ := Dp.reads I d x v hd rx
  obtain ⟨bs, r2⟩ := Dp.reads I (.tuple ds) y u he ry
  exact SeqAt.notIn_tuple_reads r2 r1 (canT se) (SeqAt.canLay_of_shaped sd) (room_in_shaped sd hu) ⟨.bl _, H, I, rfl, q⟩
def qIn (K : PySem.W.Frag) : R2 := fun x y H Q => (∃ (c : Nat) (z : Str), x = .str ⟨#[c]⟩ ∧ y = .str z ∧ Q (.bl (decide (c ∈ z.cps.toList))) H) ∨ (rIn K false x y H Q ∨ ((∃ i j, x = .str i ∧ y = .str j ∧ Q (.bl (!(Builtin.Str.occurrences j i 0 j.length 1).isEmpty)) H) ∨ (rInD K x y H Q ∨ rInDT K x y H Q)))
def qNin (K : PySem.W.Frag) : R2 := fun x y H Q => (∃ (c : Nat) (z : Str), x = .str ⟨#[c]⟩ ∧ y = .str z ∧ Q (.bl (!decide (c ∈ z.cps.toList))) H) ∨ (rIn K true x y H Q ∨ ((∃ i j, x = .str i ∧ y = .str j ∧ Q (.bl (!(!(Builtin.Str.occurrences j i 0 j.length 1).isEmpty))) H) ∨ (rNotInD K x y H Q ∨ rNotInDT K x y H Q)))
def qIs : R2 := fun x y H Q => y = .non ∧ Q (.bl (decide (x = .non))) H
def qIsn : R2 := fun x y H Q => y = .non ∧ Q (.bl (!decide (x = .non))) H
section
variable {X : Cx}
theorem og_add : OpR X (binaryOp .Add) (qAdd X.K) := op_add.or (op_add_str.or (op_catR.or op_catA))
theorem og_sub : OpR X (binaryOp .Sub) qSub := op_sub
theorem og_mul : OpR X (binaryOp .Mult) qMul := op_mul.or (op_mulW.or op_rep)
theorem og_fd : OpR X (binaryOp .FloorDiv) qFd := op_fdivN.or op_fdivW
theorem og_md : OpR X (binaryOp .Mod) qMd := op_mod.or op_modN
theorem og_pw : OpR X (binaryOp .Pow) qPw := op_pow
theorem og_eq (hu : X.A.units + 64 < cLine) : OpR X (compareOp .Eq) (qEq X.K) := op_eq.or (op_eqD hu)
theorem og_ne (hu : X.A.units + 64 < cLine) : OpR X (compareOp .NotEq) (qNe X.K) := op_ne.or (op_neD hu)
theorem og_lt (hu : X.A.units < cLine) : OpR X (compareOp .Lt) (qLt X.K) := op_lt.or (op_ltT hu)
theorem og_le : OpR X (compareOp .LtE) qLe := op_le
theorem og_gt : OpR X (compareOp .Gt) qGt := op_gt
theorem og_ge : OpR X (compareOp .GtE) qGe := op_ge
theorem og_in (hu : X.A.units + 65 < cLine) : OpR X (compareOp .In) (qIn X.K) := op_in_sign.or (op_in_seq.or (op_in_str.or ((op_inD hu).or (op_inDT hu))))
theorem og_nin (hu : X.A.units + 65 < cLine) : OpR X (compareOp .NotIn) (qNin X.K) := op_notIn_sign.or (op_notIn_seq.or (op_notIn_str.or ((op_notInD hu).or (op_notInDT hu))))
theorem og_is : OpR X (compareOp .Is) qIs := op_isN
theorem og_isn : OpR X (compareOp .IsNot) qIsn := op_notN
/-- slices -/
def qSl (K : PySem.W.Frag) : V → Option Int → Option Int → Hp → VK → Prop := fun x lo hi H Q => rSlL K x lo hi H Q ∨ (rSlA K x lo hi H Q ∨ rSlS x lo hi H Q)
theorem sg_all : SlR X (qSl X.K) := sl_list.or (sl_tupA.or sl_str)
/-- what is walked: a list, a tuple -/
def iAny (K : PySem.W.Frag) (te : TE) : TI := fun σ H R => iList K te σ H R ∨ iTup K te σ H R
theorem pi_any {tg e : Expr} {te : TE} (h : PE X e te) : PI X tg e (iAny X.K te) := pi_or2 (pi_list h) (pi_tup h)
/-- calls of built-ins -/
def qLen (K : PySem.W.Frag) : List V → Hp → VK → Prop := fun xs H Q => ∃ x n, xs = [x] ∧ LenV K x H n ∧ Q (.int n) H
theorem cg_len : CallR X (.builtin "len") (qLen X.K) := call_len
def qInt : List V → Hp → VK → Prop := fun xs H Q => ((∃ i, xs = [.int i] ∧ Q (.int i) H) ∨ ∃ k, xs = [.bl k] ∧ Q (.int (if k then 1 else 0)) H) ∨ ∃ a n, xs = [.str a] ∧ PySem.intText? a = some n ∧ a.length ≤ 640 ∧ Q (.int n) H
theorem cg_int : CallR X (.type "int") qInt := Rl.CallR.or call_int1 call_int_str
def qStr : List V → Hp → VK → Prop := fun xs H Q => ∃ i, xs = [.int i] ∧ i.natAbs.log2 < 1920 ∧ Q (.str (toString i)) H
theorem cg_str : CallR X (.type "str") qStr := call_str_int
def qAbs : List V → Hp → VK → Prop := fun xs H Q => ∃ i, xs = [.int i] ∧ Q (.int (if i < 0 then -i else i)) H
theorem cg_abs : CallR X (.builtin "abs") qAbs := call_abs
def qMx (K : PySem.W.Frag) : List V → Hp → VK → Prop := fun xs H Q => (∃ i j, xs = [.int i, .int j] ∧ Q (.int (if j > i then j else i)) H) ∨ rMax K xs H Q
theorem cg_max (hc : X.calm = true) : CallR X (.builtin "max") (qMx X.K) := Rl.CallR.or (call_max2 hc) (cr_max hc)
def qMn (K : PySem.W.Frag) : List V → Hp → VK → Prop := fun xs H Q => (∃ i j, xs = [.int i, .int j] ∧ Q (.int (if j < i then j else i)) H) ∨ rMin K xs H Q
theorem cg_min (hc : X.calm = true) : CallR X (.builtin "min") (qMn X.K) := Rl.CallR.or (call_min2 hc) (cr_min hc)
theorem cg_sum (hc : X.calm = true) : CallR X (.builtin "sum") (rSum X.K) := cr_sum hc
theorem cg_all (hc : X.calm = true) : CallR X (.builtin "all") (rAll X.K) := cr_all hc
theorem cg_any (hc : X.calm = true) : CallR X (.builtin "any") (rAny X.K) := cr_any hc
def qTup (K : PySem.W.Frag) : List V → Hp → VK → Prop := fun xs H Q => ∃ p ys, xs = [.ref p] ∧ ((SqL K H p ys ∧ ∀ l, H l = none → Q (.ref l) (upd H l (.tup ys))) ∨ (SqT K H p ys ∧ Q (.ref p) H))
theorem cg_tuple : CallR X (.type "tuple") (qTup X.K) := call_tuple_of
def qLst (K : PySem.W.Frag) : List V → Hp → VK → Prop := fun xs H Q => ∃ p ys, xs = [.ref p] ∧ (SqL K H p ys ∨ SqT K H p ys) ∧ ∀ l, H l = none → Q (.ref l) (upd H l (.lst ys))
theorem cg_list : CallR X (.type "list") (qLst X.K) := call_list_of
def qIsi (K : PySem.W.Frag) : List V → Hp → VK → Prop := fun xs H Q => rIsi K xs H Q ∨ rIsiT K xs H Q
theorem cg_isi : CallR X (.builtin "isinstance") (qIsi X.K) := Rl.CallR.or call_isi call_isiT
/-- sep.join(xs) -/
def qJoin (K : PySem.W.Frag) : V → List V → Hp → VK → Prop := fun x xs H Q => ∃ a p, ∃ ys : List Str, x = .str a ∧ xs = [.ref p] ∧ (SqL K H p (ys.map V.str) ∨ SqT K H p (ys.map V.str)) ∧ (ys.map (·.length)).sum + ys.length * a.length ≤ 16777216 ∧ Q (.str (Txt.join a ys)) H
def qSplit : V → List V → Hp → VK → Prop := fun x xs H Q => ∃ a b, x = .str a ∧ xs = [.str b] ∧ (b.length == 0) = false ∧ a.length + 2 ≤ sizeLine ∧ rNewStrs (Txt.split a b) H Q
def qStarts : V → List V → Hp → VK → Prop := fun x xs H Q => ∃ a b, x = .str a ∧ xs = [.str b] ∧ Q (.bl (Txt.startswith a b)) H
def qBool : List V → Hp → VK → Prop := fun xs H Q => (∃ i, xs = [.int i] ∧ Q (.bl (i != 0)) H) ∨ ∃ k, xs = [.bl k] ∧ Q (.bl k) H
def orR2 (r r' : R2) : R2 := fun x y H Q => r x y H Q ∨ r' x y H Q
def orC (r r' : List V → Hp → VK → Prop) : List V → Hp → VK → Prop := fun xs H Q => r xs H Q ∨ r' xs H Q
def orE (t u : TE) : TE := fun σ H Q => t σ H Q ∨ u σ H Q
end
end Rl

set_option Elab.async false
set_option linter.all false
set_option maxRecDepth 100000
set_option maxHeartbeats 4000000
/-! More rules over the hand layer. -/
namespace Rl
open PySem PySem.Spec PyProof.Rows L2
def iSeq (K : PySem.W.Frag) (tl : TE) : TI := fun σ H R => tl σ H fun x H1 => ∃ a, x = .ref a ∧ (((∃ xs, SqL K H1 a xs) ∧ R (Itl K a) H1) ∨ ((∃ xs, SqT K H1 a xs) ∧ R (Itt K a) H1))
section
variable {X : Cx} {tg : Expr}
theorem pi_seq {l : Expr} {tl : TE} (hl : PE X l tl) : PI X tg l (iSeq X.K tl) := by
  refine ⟨fun pins s σ H R I h => ?_⟩
  refine thn (hl.run pins s σ H _ I h) fun v s1 ⟨x, H1, I1, r1, q1⟩ => ?_
  obtain ⟨a, e, q⟩ := q1
  subst e
  cases r1
  rcases q with ⟨⟨xs, hq⟩, q⟩ | ⟨⟨xs, hq⟩, q⟩
  · obtain ⟨its, rv, p, hz⟩ := I1.list hq
    refine wpAny_pyIter_list p.isList ?_
    refine ⟨s1.heap.objs.size, [s1.heap.objs.size], _, _, H1, rfl, I1.kept (t' := s1.toks) fun b o e => Heap.get?_push_of_some _ e, turn_list a _, ⟨_, Heap.get?_push_size _ rfl, rfl, rfl⟩, fun b hb => ?_, q⟩
    have e : b = s1.heap.objs.size := by simpa using hb
    subst e
    exact I1.fpOk (Nat.le_refl _) (I1.hok.fresh (Nat.le_refl _))
  · obtain ⟨its, rv, p, hz⟩ := I1.tuple hq
    refine wpAny_pyIter_tuple (show s1.heap.IsTuple a its.toArray from p) ?_
    refine ⟨s1.heap.objs.size, [s1.heap.objs.size], _, _, H1, rfl, I1.kept (t' := s1.toks) fun b o e => Heap.get?_push_of_some _ e, turn_tuple a _, ⟨_, Heap.get?_push_size _ rfl, rfl, rfl⟩, fun b hb => ?_, q⟩
    have e : b = s1.heap.objs.size := by simpa using hb
    subst e
    exact I1.fpOk (Nat.le_refl _) (I1.hok.fresh (Nat.le_refl _))
/-- min(t), max(t) of a tuple of ints -/
def rMinT (K : PySem.W.Frag) : List V → Hp → VK → Prop := fun vs H Q => ∃ (a : Addr) (ns : List Int), vs = [V.ref a] ∧ SqT K H a (ns.map V.int) ∧ 0 < ns.length ∧ ∀ m, m ∈ ns → (∀ y, y ∈ ns → m ≤ y) → Q (.int m) H
def rMaxT (K : PySem.W.Frag) : List V → Hp → VK → Prop := fun vs H Q => ∃ (a : Addr) (ns : List Int), vs = [V.ref a] ∧ SqT K H a (ns.map V.int) ∧ 0 < ns.length ∧ ∀ m, m ∈ ns → (∀ y, y ∈ ns → y ≤ m) → Q (.int m) H
theorem reads_ints {h : Heap} : ∀ {ns : List Int} {us : List Value}, Vals (ns.map V.int) us → ∃ as, ReadsAll h us (ns.map PyData.int) as
  | [], _, r => by
    cases r
    exact ⟨[], .nil⟩
  | n :: ns, _, r => by
    cases r with
    | cons a b =>
      obtain ⟨t, rfl⟩ := a
      obtain ⟨as, q⟩ := reads_ints b
      exact ⟨_, .cons (.int n t) q⟩
theorem foldl_min_mem : ∀ (ns : List Int) (n : Int), ns.foldl min n ∈ n :: ns ∧ ∀ y ∈ n :: ns, ns.foldl min n ≤ y
  | [], n => ⟨by simp, fun y hy => by simp at hy; subst hy; exact Int.le_refl _⟩
  | k :: ns, n => by
    obtain ⟨h1, h2⟩ := foldl_min_mem ns (min n k)
    rw [List.foldl_cons]
    refine ⟨?_, fun y hy => ?_⟩
    · rcases List.mem_cons.mp h1 with e | e
      · rw [e]
        rcases Int.le_total n k with q | q
        · rw [show min n k = n by omega]; simp
        · rw [show min n k = k by omega]; simp
      · exact List.mem_cons_of_mem _ (List.mem_cons_of_mem _ e)
    · have h3 := h2 (min n k) (by simp)
      rcases List.mem_cons.mp hy with e | e
      · subst e; omega
      · rcases List.mem_cons.mp e with e | e
        · subst e; omega
        · exact h2 y (List.mem_cons_of_mem _ e)
theorem foldl_max_mem : ∀ (ns : List Int) (n : Int), ns.foldl max n ∈ n :: ns ∧ ∀ y ∈ n :: ns, y ≤ ns.foldl max n
  | [], n => ⟨by simp, fun y hy => by simp at hy; subst hy; exact Int.le_refl _⟩
  | k :: ns, n => by
    obtain ⟨h1, h2⟩ := foldl_max_mem ns (max n k)
    rw [List.foldl_cons]
    refine ⟨?_, fun y hy => ?_⟩
    · rcases List.mem_cons.mp h1 with e | e
      · rw [e]
        rcases Int.le_total n k with q | q
        · rw [show max n k = k by omega]; simp
        · rw [show max n k = n by omega]; simp
      · exact List.mem_cons_of_mem _ (List.mem_cons_of_mem _ e)
    · have h3 := h2 (max n k) (by simp)
      rcases List.mem_cons.mp hy with e | e
      · subst e; omega
      · rcases List.mem_cons.mp e with e | e
        · subst e; omega
        · exact h2 y (List.mem_cons_of_mem _ e)
theorem reads_int_of {h : Heap} {v : Value} {n : Int} {bs : List Addr} (r : Reads h v (.int n) bs) : ∃ t, v = .int n t := by
  cases r with
  | int i t => exact ⟨t, rfl⟩
theorem cr_minT (hc : X.calm = true) (hu : X.A.units + 64 < cLine) : CallR X (.builtin "min") (rMinT X.K) := by
  intro pins s σ H vs us Q I r h
  obtain ⟨a, ns, rfl, hs, hne, q⟩ := h
  obtain ⟨its, rv, hl, _⟩ := I.tuple hs
  rw [Vals.ref1 r]
  obtain ⟨as, rd⟩ := reads_ints (h := s.heap) rv
  cases ns with
  | nil => simp at hne
  | cons n ns =>
    have key := foldl_min_mem ns n
    refine PySem.W.min_tuple_data (x := .int n) (xs := ns.map .int) (I.ok.hd hc) (show s.heap.IsTuple a its.toArray from hl) rd (PySem.W.alikeAll_datum (α := Int) (n :: ns)) ?_ fun i v h' tk bs hi rr hk => ?_
    · have e : PyData.depthAll ((n :: ns).map PyData.int) = 0 := by
        have : ∀ l : List Int, PyData.depthAll (l.map PyData.int) = 0 := fun l => by induction l <;> simp_all [PyData.depthAll, PyData.depth]
        exact this _
      have e2 : PyData.depthAll (PyData.int n :: ns.map PyData.int) = 0 := e
      rw [e2]; omega
    · rw [PySem.W.minD_ints] at rr
      obtain ⟨t, rfl⟩ := reads_int_of rr
      exact ⟨.int _, H, I.kept hk, ⟨_, rfl⟩, q _ key.1 key.2⟩
theorem cr_maxT (hc : X.calm = true) (hu : X.A.units + 64 < cLine) : CallR X (.builtin "max") (rMaxT X.K) := by
  intro pins s σ H vs us Q I r h
  obtain ⟨a, ns, rfl, hs, hne, q⟩ := h
  obtain ⟨its, rv, hl, _⟩ := I.tuple hs
  rw [Vals.ref1 r]
  obtain ⟨as, rd⟩ := reads_ints (h := s.heap) rv
  cases ns with
  | nil => simp at hne
  | cons n ns =>
    have key := foldl_max_mem ns n
    refine PySem.W.max_tuple_data (x := .int n) (xs := ns.map .int) (I.ok.hd hc) (show s.heap.IsTuple a its.toArray from hl) rd (PySem.W.alikeAll_datum (α := Int) (n :: ns)) ?_ fun i v h' tk bs hi rr hk => ?_
    · have e : PyData.depthAll ((n :: ns).map PyData.int) = 0 := by
        have : ∀ l : List Int, PyData.depthAll (l.map PyData.int) = 0 := fun l => by induction l <;> simp_all [PyData.depthAll, PyData.depth]
        exact this _
      have e2 : PyData.depthAll (PyData.int n :: ns.map PyData.int) = 0 := e
      rw [e2]; omega
    · rw [PySem.W.maxD_ints] at rr
      obtain ⟨t, rfl⟩ := reads_int_of rr
      exact ⟨.int _, H, I.kept hk, ⟨_, rfl⟩, q _ key.1 key.2⟩
def qMnT (K : PySem.W.Frag) : List V → Hp → VK → Prop := orC (qMn K) (rMinT K)
def qMxT (K : PySem.W.Frag) : List V → Hp → VK → Prop := orC (qMx K) (rMaxT K)
theorem cg_minT (hc : X.calm = true) (hu : X.A.units + 64 < cLine) : CallR X (.builtin "min") (qMnT X.K) := Rl.CallR.or (cg_min hc) (cr_minT hc hu)
theorem cg_maxT (hc : X.calm = true) (hu : X.A.units + 64 < cLine) : CallR X (.builtin "max") (qMxT X.K) := Rl.CallR.or (cg_max hc) (cr_maxT hc hu)
/-- is True, is False -/
def qIsB : R2 := fun x y H Q => ∃ b, y = .bl b ∧ Q (.bl (decide (x = .bl b))) H
def qIsnB : R2 := fun x y H Q => ∃ b, y = .bl b ∧ Q (.bl (!decide (x = .bl b))) H
theorem is_bool_gen {M : Model} {A : Around} {E : Value → Shared → Prop} {s : Shared} {Q : Value → Shared → Prop} {v : Value} {b : Bool} (hv : ∀ id, v ≠ .builtin id) (h : Q (.bool (v == .bool b)) s) : wpAny M A (compareOp .Is v (.bool b)) Q E s := by
  cases v <;> first | exact wpAny_pure h | exact absurd rfl (hv _)
theorem isn_bool_gen {M : Model} {A : Around} {E : Value → Shared → Prop} {s : Shared} {Q : Value → Shared → Prop} {v : Value} {b : Bool} (hv : ∀ id, v ≠ .builtin id) (h : Q (.bool (!(v == .bool b))) s) : wpAny M A (compareOp .IsNot v (.bool b)) Q E s := by
  cases v <;> first | exact wpAny_pure h | exact absurd rfl (hv _)
theorem relv_nb {x : V} {v : Value} (r : RelV x v) : ∀ id, v ≠ .builtin id := fun id e => by
  subst e
  cases x <;> first | (obtain ⟨t, h⟩ := r; cases h) | cases r
theorem relv_bl {x : V} {v : Value} {b : Bool} (r : RelV x v) : (v == .bool b) = decide (x = .bl b) := by
  cases x <;> first
    | (cases r; rfl)
    | (obtain ⟨t, rfl⟩ := r; rfl)
    | (cases r; rename_i c; cases c <;> cases b <;> rfl)
theorem og_isB : OpR X (compareOp .Is) qIsB := by
  intro pins s σ H x y v u Q I rx ry h
  obtain ⟨b, rfl, q⟩ := h
  cases ry
  refine is_bool_gen (relv_nb rx) ?_
  rw [relv_bl rx]
  exact ⟨.bl _, H, I, rfl, q⟩
theorem og_isnB : OpR X (compareOp .IsNot) qIsnB := by
  intro pins s σ H x y v u Q I rx ry h
  obtain ⟨b, rfl, q⟩ := h
  cases ry
  refine isn_bool_gen (relv_nb rx) ?_
  rw [relv_bl rx]
  exact ⟨.bl _, H, I, rfl, q⟩
end
end Rl

set_option Elab.async false
set_option linter.all false
set_option maxRecDepth 100000
set_option maxHeartbeats 4000000
/-! x[::-1] of a list or a tuple; t * n. -/
namespace Rl
open PySem PySem.Spec PyProof.Rows L2
section
variable {prog : Program} {w : World} {A : Around} {E : Value → Shared → Prop} {s : Shared}
theorem pick_rev (xs : Array Value) : ((List.range xs.size).filterMap fun (m : Nat) => xs[(((xs.size : Int) - 1) + (m : Int) * (-1)).toNat]?).toArray = xs.toList.reverse.toArray := by
  have key : (List.range xs.size).filterMap (fun (m : Nat) => xs[(((xs.size : Int) - 1) + (m : Int) * (-1)).toNat]?) = xs.toList.reverse := by
    have e1 : xs.toList.reverse = (List.range xs.size).map fun m => xs.toList.reverse.getD m .none := by
      refine List.ext_getElem? fun i => ?_
      rw [List.getElem?_map]
      by_cases hi : i < xs.size
      · rw [List.getElem?_range hi, Option.map_some, List.getD_eq_getElem?_getD, List.getElem?_eq_getElem (by simpa using hi)]
        rfl
      · rw [List.getElem?_eq_none (by simpa using hi), List.getElem?_eq_none (by simpa using hi)]
        rfl
    rw [e1]
    have : ∀ l : List Nat, (∀ m ∈ l, m < xs.size) → l.filterMap (fun (m : Nat) => xs[(((xs.size : Int) - 1) + (m : Int) * (-1)).toNat]?) = l.map fun m => xs.toList.reverse.getD m .none := fun l => by
      induction l with
      | nil => intro _; rfl
      | cons m l ih =>
        intro h
        have hm := h m (by simp)
        have e2 : (((xs.size : Int) - 1) + (m : Int) * (-1)).toNat = xs.size - 1 - m := by omega
        have e3 : xs[xs.size - 1 - m]? = some (xs.toList.reverse.getD m .none) := by
          rw [List.getD_eq_getElem?_getD, List.getElem?_reverse (by simpa using hm), Array.getElem?_eq_getElem (by omega), Array.length_toList, List.getElem?_eq_getElem (by rw [Array.length_toList]; omega)]
          rfl
        rw [List.filterMap_cons, e2, e3, List.map_cons, ih fun k hk => h k (List.mem_cons_of_mem _ hk)]
    exact this _ fun m hm => List.mem_range.mp hm
  rw [key]
theorem adjust_rev (n : Nat) : Builtin.Slice.sliceAdjust none none (-1) (n : Int) = ((n : Int) - 1, -1) := rfl
theorem places_rev (n : Nat) : Builtin.Slice.slicePlaces ((n : Int) - 1) (-1) (-1) = n := by
  unfold Builtin.Slice.slicePlaces
  have h1 : ¬ ((-1 : Int) > 0) := by omega
  simp only [h1, if_false, Int.neg_neg, Int.ediv_one]
  split <;> omega
theorem getItem_tuple_rev {t sl : Addr} {items : Array Value} {u : Tok} {Q : Value → Shared → Prop} (ht : IsTup s.heap t items) (hs : s.heap.IsSliceOf sl .none .none (.int (-1) u)) (hsz : items.size ≤ sizeLine)
    (h : Q (.ref s.heap.objs.size) { s with heap := s.heap.push { cls := .type "tuple", data := .seq items.toList.reverse.toArray } }) : wpAny (model prog w) A (getItem (.ref t) (.ref sl)) Q E s := by
  have htake : sizeOk (.seq items.toList.reverse.toArray) := by
    show items.toList.reverse.toArray.size ≤ sizeLine
    rw [List.size_toArray, List.length_reverse, Array.length_toList]
    exact hsz
  obtain ⟨os, hos, hcs, hds⟩ := id hs
  have hTs : s.TypeIs (.ref sl) "slice" := ⟨os, hos, hcs⟩
  unfold getItem
  try with_reducible refine wpAny_holding ?_
  first | refine wpAny_bind (wpAny_pure ?_) | skip
  refine wpAny_bind (wpAny_sequenceKey ht.typeIs (by decide) ?_)
  refine wpAny_bind (wpAny_callSpecial?_slot (name := Str.ofString "__getitem__") ht.typeIs PyProof.Rows.slot_tuple_getitem
    (wpAny_call_entry PyProof.Rows.slot_tuple_getitem ht.typeIs entry_tuple_getitem ?_ (args_tuple_getitem _ _)))
  show wpAny _ _ (Builtin.Tuple.tupleItemsOf (.ref t) >>= _) _ _ s
  refine wpAny_bind (tupleItemsOf_ ht ?_)
  refine wpAny_bind (wpAny_typeOf hTs ?_)
  rw [if_pos (by decide)]
  have applied : ∀ {A : Around} {E : Value → Shared → Prop} {Q : Int × Int × Nat → Shared → Prop}, Q ((items.size : Int) - 1, -1, items.size) s → wpAny (model prog w) A (Builtin.Slice.sliceApplied (.ref sl) (pure (items.size : Int))) Q E s := fun {A E Q} h => by
    unfold Builtin.Slice.sliceApplied Builtin.Slice.sliceFields
    refine wpAny_bind (wpAny_bind (wpAny_field hos hds (x := .none) rfl (wpAny_bind (wpAny_field hos hds (x := .none) rfl (wpAny_bind (wpAny_field hos hds (x := .int (-1) u) rfl (wpAny_pure ?_)))))))
    refine wpAny_bind (slicePart_int ?_)
    show wpAny _ _ (if ((-1 : Int) == 0) = true then _ else _) _ _ s
    rw [if_neg (by decide)]
    refine wpAny_bind (slicePart_none (wpAny_bind (slicePart_none (wpAny_bind (wpAny_pure ?_)))))
    show wpAny _ _ (match Builtin.Slice.sliceAdjust none none (-1) (items.size : Int) with | (lo, hi) => pure (lo, (-1 : Int), Builtin.Slice.slicePlaces lo hi (-1))) _ _ s
    rw [adjust_rev]
    show wpAny _ _ (pure (((items.size : Int) - 1), (-1 : Int), Builtin.Slice.slicePlaces ((items.size : Int) - 1) (-1) (-1))) _ _ s
    rw [places_rev]
    exact wpAny_pure h
  refine wpAny_bind (applied ?_)
  have hno : ¬ (((((items.size : Int) - 1 : Int)) == 0 && (-1 : Int) == 1 && items.size == items.size) = true) := by
    intro q
    rw [Bool.and_eq_true, Bool.and_eq_true] at q
    exact absurd q.1.2 (by decide)
  show wpAny _ _ (if ((((items.size : Int) - 1 : Int)) == 0 && (-1 : Int) == 1 && items.size == items.size) = true then _ else _) _ _ s
  rw [if_neg hno, pick_rev]
  first
    | exact wpAny_bind (m := Builtin.Tuple.tupleExact _) (wpAny_newObj_type (wpAny_pure ⟨_, rfl, wpAny_pure h⟩) htake)
    | exact wpAny_bind (m := Builtin.Tuple.tupleExact _) (wpAny_newObj_type (wpAny_bind (wpAny_pure (wpAny_pure ⟨_, rfl, wpAny_pure h⟩))) htake)
    | exact wpAny_bind (wpAny_bind (m := Builtin.Tuple.tupleExact _) (wpAny_newObj_type (wpAny_pure (wpAny_pure ⟨_, rfl, wpAny_pure h⟩)) htake))
    | exact wpAny_bind (wpAny_bind (m := Builtin.Tuple.tupleExact _) (wpAny_newObj_type (wpAny_pure ⟨_, rfl, wpAny_pure h⟩) htake))
end
def tRevA (K : PySem.W.Frag) (te : TE) : TE := fun σ H Q => te σ H fun x H1 => ∃ a xs, x = .ref a ∧ ((SqL K H1 a xs ∧ ∀ p, H1 p = none → Q (.ref p) (upd H1 p (.lst xs.reverse))) ∨ (SqT K H1 a xs ∧ ∀ p, H1 p = none → Q (.ref p) (upd H1 p (.tup xs.reverse))))
theorem pe_revA {X : Cx} {e : Expr} {te : TE} {k : Nat} {p1 p2 p3 pos : Pos} (he : PE X e te) : PE X (.Subscript e (.Slice none none (some (.UnaryOp .USub (.Constant (.int 1) k p1) p2)) p3) pos) (tRevA X.K te) := by
  refine ⟨fun pins s σ H Q I h => ?_⟩
  refine Subscript_ (thn (he.run pins s σ H _ I h) fun v s1 ⟨x, H1, I1, r1, q1⟩ => ?_)
  obtain ⟨a, xs, ex, q⟩ := q1
  subst ex
  cases r1
  have hst : PO X (some (.UnaryOp .USub (.Constant (.int 1) k p1) p2)) (tPart (tUn (rU fun i => .int (-i)) (tC (.int 1)))) := po_some (pe_un un_neg pe_int)
  refine wpAny_Slice (thn (po_none.run pins s1 σ H1 (fun o H2 => o = none ∧ H2 = H1) I1 ⟨rfl, rfl⟩) fun vl s2 ⟨l, H2, I2, pl, el, e2⟩ => ?_)
  subst el e2
  refine thn (po_none.run pins s2 σ H2 (fun o H3 => o = none ∧ H3 = H2) I2 ⟨rfl, rfl⟩) fun vu s3 ⟨u, H3, I3, pu, eu, e3⟩ => ?_
  subst eu e3
  refine thn (hst.run pins s3 σ H3 (fun o H4 => o = some (-1) ∧ H4 = H3) I3 ⟨1, rfl, -1, rfl, rfl, rfl⟩) fun vs s4 ⟨o, H4, I4, ps, eo, e4⟩ => ?_
  subst eo e4
  have I5 : Inv X pins σ H4 { s4 with heap := s4.heap.push { cls := .type "slice", data := .fields #[vl, vu, vs] } } := I4.kept (t' := s4.toks) fun b ob q => Heap.get?_push_of_some _ q
  show wpAny (model X.prog X.w) X.A (subscriptTail e (.Slice none none (some (.UnaryOp .USub (.Constant (.int 1) k p1) p2)) p3) (.ref a) (.ref s4.heap.objs.size)) (EP X pins σ Q) X.xe { s4 with heap := s4.heap.push { cls := .type "slice", data := .fields #[vl, vu, vs] } }
  rcases q with ⟨hx, q⟩ | ⟨hx, q⟩
  · obtain ⟨its, r, ht, hz⟩ := I5.list hx
    have hlen := r.length
    refine tail_any (ops := [.ref a, .ref s4.heap.objs.size]) ht.isList.typeIs (PySem.slot_list_getitem.lookup) ?_ (by with_unfolding_all rfl)
    refine wpAny_getItem_list_slice ht.isList (Heap.IsSliceOf.new _ vl vu vs) pl pu ps (by decide) ?_ (by rw [List.size_toArray]; omega)
    rw [PySem.W.krv_pick]
    refine ⟨.ref _, _, I5.laid (t' := s4.toks) (o := .lst xs.reverse) (fun b ob q => Heap.get?_push_of_some _ q) (Nat.le_refl _) ?_, rfl, q _ (I5.hok.fresh (Nat.le_refl _))⟩
    exact ⟨by rw [List.length_reverse]; exact hz, _, 0, r.reverse, Heap.get?_push_size _ rfl⟩
  · obtain ⟨its, r, ht, hz⟩ := I5.tuple hx
    have hlen := r.length
    cases pl
    cases pu
    cases ps with
    | int _ tk =>
      refine tail_any (ops := [.ref a, .ref s4.heap.objs.size]) (T := "tuple") ht.typeIs (PyProof.Rows.slot_tuple_getitem.lookup) ?_ (by with_unfolding_all rfl)
      refine getItem_tuple_rev ht (Heap.IsSliceOf.new _ _ _ _) (by rw [List.size_toArray]; omega) ?_
      refine ⟨.ref _, _, I5.laid (t' := s4.toks) (o := .tup xs.reverse) (fun b ob q => Heap.get?_push_of_some _ q) (Nat.le_refl _) ?_, rfl, q _ (I5.hok.fresh (Nat.le_refl _))⟩
      exact ⟨by rw [List.length_reverse]; exact hz, _, r.reverse, IsTup.new _ _⟩
theorem tuple_mulW1 (l : Addr) (items : Array Value) (n : Nat) (dd : Option Addr) (sl : Array (Option Value)) (x : Int) (u : Tok) (c0 : (decide (x < -(2 ^ 63)) || decide (x ≥ 2 ^ 63)) = false) (c1 : (items.isEmpty || x == 1) = true) :
    Meets (Builtin.«tuple.__mul__» ⟨[.ref l, .int x u], []⟩) (fun _ R s => s.heap.get? l = some { cls := .type "tuple", dict := dd, data := .seq items n, slots := sl } ∧
      R (.ok (.ret (Value.ref l))) s) :=
  .of_wp fun prog w A R s h => by
    obtain ⟨hp, g, d, tk, os⟩ := s
    obtain ⟨hl, h⟩ := h
    have f1 := AutoSeq1.idx_int
    wp_walk using wpAny_loadPart' hl
    repeat (first
      | (refine wpAny_ite_false (decide_eq_false (by rw [c0]; exact Bool.false_ne_true)) ?_; wp_walk using wpAny_loadPart' hl)
      | (refine wpAny_ite_true (decide_eq_true c1) ?_; wp_walk using wpAny_loadPart' hl))
    exact ⟨_, rfl, h⟩
def rRepT1 (K : PySem.W.Frag) : R2 := fun x y H Q => ∃ l xs, x = .ref l ∧ y = .int 1 ∧ SqT K H l xs ∧ Q (.ref l) H
theorem op_repT1 {X : Cx} : OpR X (binaryOp .Mult) (rRepT1 X.K) := by
  intro pins s σ H x y v u Q I rx ry h
  obtain ⟨l, xs, rfl, rfl, hT, q⟩ := h
  cases rx
  obtain ⟨t, rfl⟩ := ry
  obtain ⟨its, r, ⟨⟨cls, dd, data, sl⟩, ho, hc, n, hd⟩, hs⟩ := I.tuple hT
  simp only at hc hd
  subst hc hd
  have c0 : (decide ((1 : Int) < -(2 ^ 63)) || decide ((1 : Int) ≥ 2 ^ 63)) = false := by decide
  have c1 : (its.toArray.isEmpty || (1 : Int) == 1) = true := by simp
  refine wpAny_binaryOp_repeat_ref (T := "tuple") (U := "int") (by decide) ⟨_, ho, rfl⟩ (fun s' => typeIs_int s' 1 t) noFill_tuple_mul F.fills_int_mul F.slot_int_rmul repeat_tuple F.slot_int_index.lookup
    (call_meets F.slot_int_rmul (typeIs_int s 1 t) F.entry_int_rmul (F.args_int_rmul_2 _ _) (int_rmul_tuple 1 t l its.toArray n dd sl)
      ⟨ho, rfl, ⟨_, ho, rfl⟩, call_meets F.slot_tuple_mul ⟨_, ho, rfl⟩ F.entry_tuple_mul (F.args_tuple_mul_2 _ _) (tuple_mulW1 l its.toArray n dd sl 1 t c0 c1) ⟨ho, ?_⟩⟩)
  exact ⟨.ref l, _, I, rfl, q⟩
theorem rm65 {k : Nat} {A : Around} (r : Room k A) : A.units + 65 < cLine := by have := r.un; omega
def qMulT (K : PySem.W.Frag) : R2 := orR2 qMul (orR2 (rRepT K) (rRepT1 K))
theorem og_mulT {X : Cx} : OpR X (binaryOp .Mult) (qMulT X.K) := OpR.or og_mul (OpR.or op_repT op_repT1)
end Rl

set_option Elab.async false
set_option linter.all false
set_option maxRecDepth 100000
set_option maxHeartbeats 4000000
/-! Tuples of whole numbers whose methods are called: tracked as known objects. -/
namespace RT
open PySem PySem.Spec PyProof.Rows L2 Rl RZ
section
variable {X : Cx}
theorem ints_are : ∀ {ns : List Int} {us : List Value}, Vals (ns.map V.int) us → IntsAre us ns
  | [], _, h => by cases h; exact .nil
  | n :: ns, _, h => by
    cases h with
    | cons r t =>
      obtain ⟨q, rfl⟩ := r
      exact .cons n q (ints_are t)
def rIndexT (K : PySem.W.Frag) : V → List V → Hp → VK → Prop := fun x xs H Q => ∃ (a : Addr) (ns : List Int) (k : Int), x = .ref a ∧ xs = [.int k] ∧ SqT K H a (ns.map V.int) ∧ k ∈ ns ∧ Q (.int (ns.idxOf k : Nat)) H
theorem mt_indexT : MtR X "tuple.index" (rIndexT X.K) := by
  intro pins s σ H x xs v us Q I rx rxs h
  obtain ⟨a, ns, k, rfl, rfl, hs, hk, q⟩ := h
  cases rx
  obtain ⟨u, rfl, ru⟩ := Vals.one rxs
  obtain ⟨t, rfl⟩ := ru
  obtain ⟨its, rv, hl, hz⟩ := I.tuple hs
  exact SeqAt.tuple_index_ints (vs := its) (show s.heap.IsTuple a its.toArray from hl) (ints_are rv) hk ⟨.int _, H, I.tok _, ⟨_, rfl⟩, q⟩
def tIdx (K : PySem.W.Frag) (to : TE) (t : TA) : TE := fun σ H Q => to σ H fun x H1 => (∃ a o ws, x = .ref a ∧ H1 a = some (.frz o (.tup ws)) ∧ o.cls = .type "tuple" ∧ o.dict = none) ∧ t σ H1 fun xs H2 => rIndexT K x xs H2 Q
variable {o e : Expr} {es : List Expr} {to : TE} {t : TA} {apos cpos : Pos}
theorem pe_idx (ho : PE X o to) (ha : PA X (e :: es) t)
    (hbase : attributeBase o "index" X.env (eval o X.env) = eval o X.env := by rfl)
    (hfew : ((backTo cpos (starEach (e :: es) X.env)).all (fun x => !x.1) && (backToKw cpos (keywordEach [] X.env)).all (fun x => x.1.isSome)
      && decide ((e :: es).length + ([] : List Keyword).length + (if ([] : List Keyword).isEmpty then 0 else 1) < 30)) = true := by rfl)
    (hline : (apos.endLine == cpos.line) = true := by rfl) (hs : starEach (e :: es) X.env = (false, eval e X.env) :: starEach es X.env := by rfl) (hplain : (backTo cpos (starEach es X.env)).any (·.1) = false := by rfl) :
    PE X (.Call (.Attribute o "index" apos) (e :: es) [] cpos) (tIdx X.K to t) := by
  refine ⟨fun pins s σ H Q I h => ?_⟩
  refine wpAny_Call_method_late hbase hfew hline rfl (thn (ho.run pins s σ H _ I h) fun v s1 ⟨x, H1, I1, r1, q1⟩ => ?_)
  obtain ⟨⟨a, ob, ws, rfl, hq, hc, hd⟩, q1⟩ := q1
  cases r1
  obtain ⟨e1, _⟩ := I1.hok a _ hq
  refine ⟨"tuple", "tuple.index", PySem.F.plainAttrs_tuple, PySem.F.slot_tuple_index, PySem.F.type_tuple_index, ⟨ob, e1, hc⟩, (fun b eb => by cases eb; exact ⟨ob, e1, hd⟩), ?_⟩
  have hA := ha.run cpos pins s1 σ H1 _ I1 q1
  rw [hs] at hA ⊢
  refine Calls.callWith_builtin (by show (false || (backTo cpos (starEach es X.env)).any (·.1)) = false; rw [hplain] <;> rfl) (Calls.evalArgs_plain ?_)
  exact thn hA fun us s2 ⟨vs, H2, I2, r2, q2⟩ => mt_indexT pins s2 σ H2 (.ref a) vs (.ref a) us Q I2 rfl r2 q2
/-- tuple(xs), xs a list: the new tuple is a known object -/
def qTupF (K : PySem.W.Frag) : List V → Hp → VK → Prop := fun xs H Q => ∃ p ys, xs = [.ref p] ∧ SqL K H p ys ∧ ∀ l o, H l = none → o.cls = .type "tuple" → o.dict = none → Q (.ref l) (upd H l (.frz o (.tup ys)))
theorem cg_tupleF : CallR X (.type "tuple") (qTupF X.K) := by
  intro pins s σ H xs us Q I r h
  obtain ⟨p, ys, rfl, hq, q⟩ := h
  obtain ⟨u, rfl, rx⟩ := vals1 r
  cases rx
  obtain ⟨its, r', pl, hz⟩ := I.list hq
  have hlen := r'.length
  refine call_tuple_list pl.isList (fun h' kp => ?_) (by simp only [List.size_toArray] <;> omega)
  have I1 : Inv X pins σ H { s with heap := h' } := I.kept (t' := s.toks) kp
  have I2 : Inv X pins σ (upd H h'.objs.size (.frz { cls := .type "tuple", data := .seq its.toArray } (.tup ys))) { s with heap := h'.push { cls := .type "tuple", data := .seq its.toArray } } :=
    I1.laid (t' := s.toks) (fun b o e => Heap.get?_push_of_some _ e) (Nat.le_refl _) (show ObjOk X.prog X.w _ _ _ (.frz _ (.tup ys)) from ⟨Heap.get?_push_size _ rfl, hz, its, r', IsTup.new _ _⟩)
  exact ⟨.ref h'.objs.size, _, I2, rfl, q _ _ (I1.hok.fresh (Nat.le_refl _)) rfl rfl⟩
end
end RT

set_option Elab.async false
set_option linter.all false
set_option maxRecDepth 100000
set_option maxHeartbeats 4000000
/-! Plain data, a memory of cells, and what a reading comes to over them. -/
namespace Px
open PySem PySem.Spec PyProof.Rows L2 Rl RZ RT
open Evl (Ex)
abbrev Frag := PySem.W.Frag
/-- plain data -/
inductive D where
  | non | bl (b : Bool) | int (i : Int) | str (s : Str) | ty (n : String)
  | lst (xs : List D) | tup (xs : List D)
  | ins (c : Str) (ns : List Str) (xs : List D)
  /-- an own class -/
  | cls (c : Str)
  /-- a cell of the memory -/
  | ref (a : Addr)
  /-- the script -/
  | scr (l : List Int)
  /-- a tuple of whole numbers whose methods are called -/
  | tux (l : List Int)
/-- what is known of an own class whose instances bear some attributes -/
structure CF (K : Frag) (c : Str) (ns : List Str) : Prop where
  cl : Cls K (He.ga K c)
  ty : Tyi K (He.ga K c)
  na : ∀ f ∈ ns, NoAttr K (He.ga K c) f
mutual
inductive Is (K : Frag) (F : Hp) : V → D → Prop
  | non : Is K F .non .non
  | bl (b : Bool) : Is K F (.bl b) (.bl b)
  | int (i : Int) : Is K F (.int i) (.int i)
  | str (s : Str) : Is K F (.str s) (.str s)
  | ty (n : String) : Is K F (.ty n) (.ty n)
  | lst {a : Addr} {xs : List V} {ds : List D} : F a = some (.lst xs) → IsAll K F xs ds → Is K F (.ref a) (.lst ds)
  | tup {a : Addr} {xs : List V} {ds : List D} : SqT K F a xs → IsAll K F xs ds → Is K F (.ref a) (.tup ds)
  | ins {a dx : Addr} {fs : List (Str × V)} {c : Str} {ns : List Str} {ds : List D} : F a = some (.ins (He.ga K c) dx fs) → CF K c ns → fs.map (·.1) = ns → IsAll K F (fs.map (·.2)) ds → Is K F (.ref a) (.ins c ns ds)
  | cls (c : Str) : Is K F (.ref (He.ga K c)) (.cls c)
  | ref (a : Addr) : Is K F (.ref a) (.ref a)
  | scr {a : Addr} {l : List Int} : SqL K F a (l.map V.int) → Is K F (.ref a) (.scr l)
  | tux {a : Addr} {l : List Int} (o : Obj) : F a = some (.frz o (.tup (l.map V.int))) → o.cls = .type "tuple" → o.dict = none → Is K F (.ref a) (.tux l)
inductive IsAll (K : Frag) (F : Hp) : List V → List D → Prop
  | nil : IsAll K F [] []
  | cons {v : V} {vs : List V} {d : D} {ds : List D} : Is K F v d → IsAll K F vs ds → IsAll K F (v :: vs) (d :: ds)
end
section
variable {K : Frag} {F F' H H' : Hp}
mutual
theorem Is.mono (e : Ex F F') : ∀ (d : D) (v : V), Is K F v d → Is K F' v d
  | .non, _, h => by cases h; exact .non
  | .bl b, _, h => by cases h; exact .bl b
  | .int i, _, h => by cases h; exact .int i
  | .str s, _, h => by cases h; exact .str s
  | .ty s, _, h => by cases h; exact .ty s
  | .cls s, _, h => by cases h; exact .cls s
  | .ref s, _, h => by cases h; exact .ref s
  | .scr l, _, h => by
    cases h with
    | scr h => exact .scr (Evl.ex_l e h)
  | .tux l, _, h => by
    cases h with
    | tux o h h1 h2 => exact .tux o (e _ _ h) h1 h2
  | .lst ds, _, h => by
    cases h with
    | lst h1 h2 => exact .lst (e _ _ h1) (IsAll.mono e ds _ h2)
  | .tup ds, _, h => by
    cases h with
    | tup h1 h2 => exact .tup (Evl.ex_t e h1) (IsAll.mono e ds _ h2)
  | .ins c ns ds, _, h => by
    cases h with
    | ins h1 h0 h2 h3 => exact .ins (e _ _ h1) h0 h2 (IsAll.mono e ds _ h3)
theorem IsAll.mono (e : Ex F F') : ∀ (ds : List D) (vs : List V), IsAll K F vs ds → IsAll K F' vs ds
  | [], _, h => by cases h; exact .nil
  | d :: ds, _, h => by
    cases h with
    | cons h1 h2 => exact .cons (Is.mono e d _ h1) (IsAll.mono e ds _ h2)
end
theorem Is.up {v : V} {d : D} (h : Is K F v d) (e : Ex F F') : Is K F' v d := Is.mono e d v h
theorem IsAll.up {v : List V} {d : List D} (h : IsAll K F v d) (e : Ex F F') : IsAll K F' v d := IsAll.mono e d v h
theorem IsAll.len : ∀ {vs : List V} {ds : List D}, IsAll K F vs ds → vs.length = ds.length
  | _, _, .nil => rfl
  | _, _, .cons _ h => by rw [List.length_cons, List.length_cons, IsAll.len h]
theorem IsAll.get : ∀ {vs : List V} {ds : List D} {i : Nat} {d : D}, IsAll K F vs ds → ds[i]? = some d → ∃ v, vs[i]? = some v ∧ Is K F v d
  | _, _, _, _, .nil, e => by simp at e
  | _, _, 0, _, .cons h _, e => by simp at e; subst e; exact ⟨_, rfl, h⟩
  | _, _, i + 1, d, .cons _ t, e => by
    obtain ⟨v, h1, h2⟩ := IsAll.get (i := i) (d := d) t (by simpa using e)
    exact ⟨v, by simpa using h1, h2⟩
theorem IsAll.app : ∀ {vs ws : List V} {ds es : List D}, IsAll K F vs ds → IsAll K F ws es → IsAll K F (vs ++ ws) (ds ++ es)
  | _, _, _, _, .nil, h => h
  | _, _, _, _, .cons h t, g => .cons h (IsAll.app t g)
theorem IsAll.set : ∀ {vs : List V} {ds : List D} {v : V} {d : D} (i : Nat), IsAll K F vs ds → Is K F v d → IsAll K F (vs.set i v) (ds.set i d)
  | _, _, _, _, _, .nil, _ => .nil
  | _, _, _, _, 0, .cons _ t, g => .cons g t
  | _, _, _, _, i + 1, .cons h t, g => .cons h (IsAll.set i t g)
theorem IsAll.take : ∀ {vs : List V} {ds : List D} (i : Nat), IsAll K F vs ds → IsAll K F (vs.take i) (ds.take i)
  | _, _, 0, _ => .nil
  | _, _, _ + 1, .nil => .nil
  | _, _, i + 1, .cons h t => .cons h (IsAll.take i t)
theorem IsAll.drop : ∀ {vs : List V} {ds : List D} (i : Nat), IsAll K F vs ds → IsAll K F (vs.drop i) (ds.drop i)
  | _, _, 0, h => h
  | _, _, _ + 1, .nil => .nil
  | _, _, i + 1, .cons _ t => IsAll.drop i t
theorem IsAll.rev {vs : List V} {ds : List D} (h : IsAll K F vs ds) : IsAll K F vs.reverse ds.reverse := by
  induction ds generalizing vs with
  | nil => cases h; exact .nil
  | cons d ds ih =>
    cases h with
    | cons h t =>
      rw [List.reverse_cons, List.reverse_cons]
      exact (ih t).app (.cons h .nil)
theorem IsAll.rep {vs : List V} {ds : List D} (h : IsAll K F vs ds) : ∀ n : Nat, IsAll K F (List.replicate n vs).flatten (List.replicate n ds).flatten
  | 0 => .nil
  | n + 1 => by
    rw [List.replicate_succ, List.replicate_succ, List.flatten_cons, List.flatten_cons]
    exact h.app (IsAll.rep h n)
abbrev Li (l : List Int) : List D := l.map D.int
abbrev Ls (l : List Str) : List D := l.map D.str
abbrev Lb (l : List Bool) : List D := l.map D.bl
theorem IsAll.li : ∀ (l : List Int) {vs : List V}, IsAll K F vs (l.map D.int) → vs = l.map V.int
  | [], _, h => by cases h; rfl
  | i :: l, _, h => by
    cases h with
    | cons h t => cases h; rw [IsAll.li l t]; rfl
theorem IsAll.ls : ∀ (l : List Str) {vs : List V}, IsAll K F vs (l.map D.str) → vs = l.map V.str
  | [], _, h => by cases h; rfl
  | i :: l, _, h => by
    cases h with
    | cons h t => cases h; rw [IsAll.ls l t]; rfl
theorem IsAll.lb : ∀ (l : List Bool) {vs : List V}, IsAll K F vs (l.map D.bl) → vs = l.map V.bl
  | [], _, h => by cases h; rfl
  | i :: l, _, h => by
    cases h with
    | cons h t => cases h; rw [IsAll.lb l t]; rfl
theorem IsAll.of_li : ∀ (l : List Int), IsAll K F (l.map V.int) (l.map D.int)
  | [] => .nil
  | i :: l => .cons (.int i) (IsAll.of_li l)
theorem IsAll.of_ls : ∀ (l : List Str), IsAll K F (l.map V.str) (l.map D.str)
  | [] => .nil
  | i :: l => .cons (.str i) (IsAll.of_ls l)
end
/-! ### the memory -/
inductive Cell where
  | lst (xs : List D)
  | ins (c : Str) (ns : List Str) (xs : List D)
def Cell.toD : Cell → D
  | .lst xs => .lst xs
  | .ins c ns xs => .ins c ns xs
abbrev Mem := Addr → Option Cell
def mu (M : Mem) (a : Addr) (c : Cell) : Mem := fun b => if b = a then some c else M b
def er (M : Mem) (a : Addr) : Mem := fun b => if b = a then none else M b
theorem mu_same {M : Mem} {a : Addr} {c : Cell} : mu M a c a = some c := by unfold mu; rw [if_pos rfl]
theorem mu_ne {M : Mem} {a b : Addr} {c : Cell} (h : b ≠ a) : mu M a c b = M b := by unfold mu; rw [if_neg h]
theorem er_same {M : Mem} {a : Addr} : er M a a = none := by unfold er; rw [if_pos rfl]
theorem er_ne {M : Mem} {a b : Addr} (h : b ≠ a) : er M a b = M b := by unfold er; rw [if_neg h]
theorem mu_mu {M : Mem} {a : Addr} {c d : Cell} : mu (mu M a c) a d = mu M a d := by funext b; unfold mu; split <;> rfl
theorem er_mu {M : Mem} {a : Addr} {c : Cell} (h : M a = none) : er (mu M a c) a = M := by
  funext b; unfold er mu
  by_cases e : b = a
  · rw [if_pos e, e, h]
  · rw [if_neg e, if_neg e]
theorem mu_comm {M : Mem} {a b : Addr} {c d : Cell} (h : a ≠ b) : mu (mu M a c) b d = mu (mu M b d) a c := by
  funext x; unfold mu
  by_cases e : x = a
  · rw [if_pos e, if_neg (by rw [e]; exact h), if_pos e]
  · by_cases e2 : x = b
    · rw [if_pos e2, if_neg e, if_pos e2]
    · rw [if_neg e2, if_neg e, if_neg e, if_neg e2]
theorem er_mu_ne {M : Mem} {a b : Addr} {c : Cell} (h : a ≠ b) : er (mu M a c) b = mu (er M b) a c := by
  funext x
  show (if x = b then none else if x = a then some c else M x) = if x = a then some c else if x = b then none else M x
  by_cases e : x = b
  · rw [if_pos e, if_neg (by rw [e]; exact h.symm), if_pos e]
  · rw [if_neg e, if_neg e]
theorem er_none {M : Mem} {a : Addr} (h : M a = none) : er M a = M := by
  funext b; unfold er
  by_cases e : b = a
  · rw [if_pos e, e, h]
  · rw [if_neg e]
theorem mu_id {M : Mem} {a : Addr} {c : Cell} (h : M a = some c) : mu M a c = M := by
  funext b; unfold mu
  by_cases e : b = a
  · rw [if_pos e, e, h]
  · rw [if_neg e]
theorem ne_some_none {M : Mem} {a b : Addr} {c : Cell} (h : M a = some c) (n : M b = none) : a ≠ b := fun e => by subst e; rw [h] at n; cases n
/-- a cell's content -/
def At (K : Frag) (F H : Hp) (a : Addr) : Cell → Prop
  | .lst ds => ∃ vs, H a = some (.lst vs) ∧ IsAll K F vs ds
  | .ins c ns ds => ∃ dx fs, H a = some (.ins (He.ga K c) dx fs) ∧ CF K c ns ∧ fs.map (·.1) = ns ∧ IsAll K F (fs.map (·.2)) ds
theorem At.there {K : Frag} {F H : Hp} {a : Addr} {c : Cell} (h : At K F H a c) : ∃ o, H a = some o := by
  cases c with
  | lst ds => obtain ⟨vs, h, _⟩ := h; exact ⟨_, h⟩
  | ins c ns ds => obtain ⟨dx, fs, h, _⟩ := h; exact ⟨_, h⟩
theorem At.mono {K : Frag} {F F' H H' : Hp} {a : Addr} {c : Cell} (h : At K F H a c) (e : Ex F F') (k : ∀ o, H a = some o → H' a = some o) : At K F' H' a c := by
  cases c with
  | lst ds => obtain ⟨vs, h, g⟩ := h; exact ⟨_, k _ h, g.up e⟩
  | ins c ns ds => obtain ⟨dx, fs, h, g0, g1, g2⟩ := h; exact ⟨dx, fs, k _ h, g0, g1, g2.up e⟩
theorem At.toIs {K : Frag} {F H : Hp} {a : Addr} {c : Cell} (h : At K F H a c) (n : F a = none) : ∃ o, H a = some o ∧ Is K (upd F a o) (.ref a) c.toD := by
  have e : ∀ {o : HO}, Ex F (upd F a o) := fun {o} => Ex.new n
  cases c with
  | lst ds =>
    obtain ⟨vs, h1, h2⟩ := h
    exact ⟨_, h1, .lst upd_same (h2.up e)⟩
  | ins c ns ds =>
    obtain ⟨dx, fs, h1, h0, h2, h3⟩ := h
    exact ⟨_, h1, .ins upd_same h0 h2 (h3.up e)⟩
/-- G: what must stay; F: what is frozen; M: the cells -/
structure Fr (K : Frag) (G F H : Hp) (M : Mem) : Prop where
  gh : Ex G H
  fh : Ex F H
  gf : ∀ a o, G a = some o → F a = none
  gm : ∀ a o, G a = some o → M a = none
  mc : ∀ a c, M a = some c → F a = none ∧ At K F H a c
section
variable {K : Frag} {G F H : Hp} {M : Mem}
theorem Fr.mh (f : Fr K G F H M) {p : Addr} (n : H p = none) : M p = none := by
  cases e : M p with
  | none => rfl
  | some c =>
    obtain ⟨o, ho⟩ := (f.mc p c e).2.there
    rw [n] at ho; cases ho
/-- a new object, frozen at once -/
theorem Fr.laid (f : Fr K G F H M) {p : Addr} {o : HO} (n : H p = none) : Fr K G (upd F p o) (upd H p o) M where
  gh := fun a u e => by rw [upd_ne (ne_of_none (f.gh a u e) n)]; exact f.gh a u e
  fh := fun a u e => by
    by_cases ha : a = p
    · subst ha; rw [upd_same] at e ⊢; exact e
    · rw [upd_ne ha] at e ⊢; exact f.fh a u e
  gf := fun a u e => by rw [upd_ne (ne_of_none (f.gh a u e) n)]; exact f.gf a u e
  gm := f.gm
  mc := fun a c e => by
    have np : a ≠ p := fun q => by subst q; rw [f.mh n] at e; cases e
    obtain ⟨h1, h2⟩ := f.mc a c e
    exact ⟨by rw [upd_ne np]; exact h1, h2.mono (Ex.new (Evl.fresh_back f.fh n)) fun u q => by rw [upd_ne np]; exact q⟩
theorem Fr.exl (f : Fr K G F H M) {p : Addr} {o : HO} (n : H p = none) : Ex F (upd F p o) := Ex.new (Evl.fresh_back f.fh n)
/-- a new object that nobody knows -/
theorem Fr.more (f : Fr K G F H M) {p : Addr} {o : HO} (n : H p = none) : Fr K G F (upd H p o) M where
  gh := fun a u e => by rw [upd_ne (ne_of_none (f.gh a u e) n)]; exact f.gh a u e
  fh := fun a u e => by rw [upd_ne (ne_of_none (f.fh a u e) n)]; exact f.fh a u e
  gf := f.gf
  gm := f.gm
  mc := fun a c e => by
    have np : a ≠ p := fun q => by subst q; rw [f.mh n] at e; cases e
    obtain ⟨h1, h2⟩ := f.mc a c e
    exact ⟨h1, h2.mono (Ex.refl F) fun u q => by rw [upd_ne np]; exact q⟩
/-- a cell is new, or changed -/
theorem Fr.cell (f : Fr K G F H M) {p : Addr} {o : HO} {c : Cell} (fp : F p = none) (gp : G p = none) (h : At K F (upd H p o) p c) : Fr K G F (upd H p o) (mu M p c) where
  gh := fun a u e => by rw [upd_ne (ne_of_none e gp)]; exact f.gh a u e
  fh := fun a u e => by rw [upd_ne (ne_of_none e fp)]; exact f.fh a u e
  gf := f.gf
  gm := fun a u e => by rw [mu_ne (ne_of_none e gp)]; exact f.gm a u e
  mc := fun a d e => by
    by_cases ea : a = p
    · subst ea
      rw [mu_same] at e; cases e
      exact ⟨fp, h⟩
    · rw [mu_ne ea] at e
      obtain ⟨h1, h2⟩ := f.mc a d e
      exact ⟨h1, h2.mono (Ex.refl F) fun u q => by rw [upd_ne ea]; exact q⟩
theorem Fr.own (f : Fr K G F H M) {p : Addr} {o : HO} {c : Cell} (n : H p = none) (h : At K F (upd H p o) p c) : Fr K G F (upd H p o) (mu M p c) := f.cell (Evl.fresh_back f.fh n) (Evl.fresh_back f.gh n) h
theorem Fr.gn (f : Fr K G F H M) {a : Addr} {c : Cell} (e : M a = some c) : G a = none := by
  cases q : G a with
  | none => rfl
  | some o => rw [f.gm a o q] at e; cases e
theorem Fr.chg (f : Fr K G F H M) {p : Addr} {o : HO} {c c0 : Cell} (e : M p = some c0) (h : At K F (upd H p o) p c) : Fr K G F (upd H p o) (mu M p c) := f.cell (f.mc p c0 e).1 (f.gn e) h
/-- a cell is forgotten -/
theorem Fr.drop (f : Fr K G F H M) (a : Addr) : Fr K G F H (er M a) where
  gh := f.gh
  fh := f.fh
  gf := f.gf
  gm := fun b u e => by
    by_cases q : b = a
    · subst q; exact er_same
    · rw [er_ne q]; exact f.gm b u e
  mc := fun b d e => by
    by_cases q : b = a
    · subst q; rw [er_same] at e; cases e
    · rw [er_ne q] at e; exact f.mc b d e
/-- a cell is frozen -/
theorem Fr.frz (f : Fr K G F H M) {a : Addr} {c : Cell} (e : M a = some c) : ∃ F', Ex F F' ∧ Fr K G F' H (er M a) ∧ Is K F' (.ref a) c.toD := by
  obtain ⟨fa, at_⟩ := f.mc a c e
  obtain ⟨o, ho, is⟩ := at_.toIs fa
  have ex : Ex F (upd F a o) := Ex.new fa
  refine ⟨upd F a o, ex, ⟨f.gh, fun b u q => ?_, fun b u q => ?_, (f.drop a).gm, fun b d q => ?_⟩, is⟩
  · by_cases eb : b = a
    · subst eb; rw [upd_same] at q; cases q; exact ho
    · rw [upd_ne eb] at q; exact f.fh b u q
  · rw [upd_ne (ne_of_none q (f.gn e))]; exact f.gf b u q
  · by_cases eb : b = a
    · subst eb; rw [er_same] at q; cases q
    · rw [er_ne eb] at q
      obtain ⟨h1, h2⟩ := f.mc b d q
      exact ⟨by rw [upd_ne eb]; exact h1, h2.mono ex fun _ z => z⟩
end
abbrev St' := List (Option D)
def Sto (K : Frag) (F : Hp) (σ : L2.St) (ρ : St') : Prop := σ.length = ρ.length ∧ ∀ (i : Nat) (x : D), ρ[i]? = some (some x) → ∃ v, σ[i]? = some (some v) ∧ Is K F v x
section
variable {K : Frag} {F F' : Hp} {σ : L2.St} {ρ : St'}
theorem Sto.up (s : Sto K F σ ρ) (e : Ex F F') : Sto K F' σ ρ := ⟨s.1, fun i x h => let ⟨v, h1, h2⟩ := s.2 i x h; ⟨v, h1, h2.up e⟩⟩
theorem setE {α : Type} {l : List α} {x y : α} {i j : Nat} (h : (l.set i x)[j]? = some y) : (j = i ∧ x = y) ∨ (j ≠ i ∧ l[j]? = some y) := by
  by_cases e : i = j
  · subst e
    by_cases hl : i < l.length
    · rw [List.getElem?_set_self hl] at h; simp at h; exact .inl ⟨rfl, h⟩
    · rw [List.getElem?_eq_none (by simpa using hl)] at h; cases h
  · rw [List.getElem?_set_ne e] at h; exact .inr ⟨fun q => e q.symm, h⟩
theorem Sto.set (s : Sto K F σ ρ) {v : V} {x : D} (h : Is K F v x) (i : Nat) : Sto K F (σ.set i (some v)) (ρ.set i (some x)) := by
  refine ⟨by rw [List.length_set, List.length_set, s.1], fun j y e => ?_⟩
  by_cases hl : i < ρ.length
  · rcases setE e with ⟨a1, a2⟩ | ⟨a1, a2⟩
    · subst a1; cases a2
      exact ⟨v, List.getElem?_set_self (by rw [s.1]; exact hl), h⟩
    · rw [List.getElem?_set_ne (Ne.symm a1)]
      exact s.2 j y a2
  · rw [List.set_eq_of_length_le (by omega)] at e
    obtain ⟨u, h1, h2⟩ := s.2 j y e
    have : j < ρ.length := (List.getElem?_eq_some_iff.mp e).1
    exact ⟨u, by rw [List.getElem?_set_ne (by omega)]; exact h1, h2⟩
theorem Sto.forget (s : Sto K F σ ρ) (o : Option V) (i : Nat) : Sto K F (σ.set i o) (ρ.set i none) := by
  refine ⟨by rw [List.length_set, List.length_set, s.1], fun j y e => ?_⟩
  rcases setE e with ⟨a1, a2⟩ | ⟨a1, a2⟩
  · cases a2
  · rw [List.getElem?_set_ne (Ne.symm a1)]
    exact s.2 j y a2
theorem Sto.kill (s : Sto K F σ ρ) (i : Nat) : Sto K F σ (ρ.set i none) := by
  refine ⟨by rw [List.length_set, s.1], fun j y e => ?_⟩
  rcases setE e with ⟨a1, a2⟩ | ⟨a1, a2⟩
  · cases a2
  · exact s.2 j y a2
def wipe' (ρ : St') : List Nat → St'
  | [] => ρ
  | v :: vs => (wipe' ρ vs).set v none
theorem Sto.wipe (s : Sto K F σ ρ) : ∀ l : List Nat, Sto K F (L2.wipe σ l) (wipe' ρ l)
  | [] => s
  | v :: l => (Sto.wipe s l).forget none v
theorem Sto.kills (s : Sto K F σ ρ) : ∀ l : List Nat, Sto K F σ (wipe' ρ l)
  | [] => s
  | v :: l => (Sto.kills s l).kill v
end
/-! ### what stops a transformer: named, each with its ways in -/
/-- a size that the model allows -/
@[irreducible] def Sz (n : Nat) (P : Prop) : Prop := n ≤ sizeLine ∧ P
theorem Sz.get {n : Nat} {P : Prop} (h : Sz n P) : n ≤ sizeLine ∧ P := by unfold Sz at h; exact h
theorem sz {n : Nat} {P : Prop} (hn : n ≤ 16777216) (h : P) : Sz n P := by unfold Sz; exact ⟨by rw [sizeLine_eq]; exact hn, h⟩
@[irreducible] def cellL (a : Addr) (M : Mem) (k : List D → Prop) : Prop := ∃ xs, M a = some (.lst xs) ∧ k xs
theorem cellL.get {a : Addr} {M : Mem} {k : List D → Prop} (h : cellL a M k) : ∃ xs, M a = some (.lst xs) ∧ k xs := by unfold cellL at h; exact h
theorem cell_of {a : Addr} {M : Mem} {k : List D → Prop} {xs : List D} (e : M a = some (.lst xs)) (h : k xs) : cellL a M k := by unfold cellL; exact ⟨xs, e, h⟩
theorem cell_mu {a : Addr} {M : Mem} {k : List D → Prop} {xs : List D} (h : k xs) : cellL a (mu M a (.lst xs)) k := cell_of mu_same h
/-- a cell is forgotten, is written -/
@[irreducible] def ern (a : Addr) (M : Mem) (k : Mem → Prop) : Prop := k (er M a)
theorem ern.get {a : Addr} {M : Mem} {k : Mem → Prop} (h : ern a M k) : k (er M a) := by unfold ern at h; exact h
theorem ern_of {a : Addr} {M : Mem} {k : Mem → Prop} (h : k (er M a)) : ern a M k := by unfold ern; exact h
theorem ern_mu {a : Addr} {M : Mem} {c : Cell} {k : Mem → Prop} (e : M a = none) (h : k M) : ern a (mu M a c) k := ern_of (by rw [er_mu e]; exact h)
@[irreducible] def mun (a : Addr) (c : Cell) (M : Mem) (k : Mem → Prop) : Prop := k (mu M a c)
theorem mun.get {a : Addr} {c : Cell} {M : Mem} {k : Mem → Prop} (h : mun a c M k) : k (mu M a c) := by unfold mun at h; exact h
theorem mun_of {a : Addr} {c : Cell} {M : Mem} {k : Mem → Prop} (h : k (mu M a c)) : mun a c M k := by unfold mun; exact h
theorem mun_mu {a : Addr} {c c' : Cell} {M : Mem} {k : Mem → Prop} (h : k (mu M a c)) : mun a c (mu M a c') k := mun_of (by rw [mu_mu]; exact h)
@[irreducible] def cellI (a : Addr) (M : Mem) (k : Str → List Str → List D → Prop) : Prop := ∃ c ns xs, M a = some (.ins c ns xs) ∧ k c ns xs
theorem cellI.get {a : Addr} {M : Mem} {k : Str → List Str → List D → Prop} (h : cellI a M k) : ∃ c ns xs, M a = some (.ins c ns xs) ∧ k c ns xs := by unfold cellI at h; exact h
theorem cellI_of {a : Addr} {M : Mem} {k : Str → List Str → List D → Prop} {c : Str} {ns : List Str} {xs : List D} (e : M a = some (.ins c ns xs)) (h : k c ns xs) : cellI a M k := by unfold cellI; exact ⟨c, ns, xs, e, h⟩
theorem cellI_mu {a : Addr} {M : Mem} {k : Str → List Str → List D → Prop} {c : Str} {ns : List Str} {xs : List D} (h : k c ns xs) : cellI a (mu M a (.ins c ns xs)) k := cellI_of mu_same h
/-! ### what is wanted of exceptions -/
structure Xn where
  c : Str
  ns : List Str
  xs : List D
abbrev XP := Xn → Mem → Prop
/-- how the wish for exceptions is linked with that of the heap's side -/
structure XL where
  ok : Hp → Hp → XP → Prop
  mono : ∀ {G F F' E}, ok G F E → Ex F F' → ok G F' E
  no : ∀ {G F}, ok G F fun _ _ => False
def XL.never : XL := ⟨fun _ _ _ => True, fun h _ => h, trivial⟩
def noX : XP := fun _ _ => False
/-! ### what readings come to -/
abbrev W := St' → Mem → (D → Mem → Prop) → XP → Prop
abbrev WT := St' → Mem → (Bool → Mem → Prop) → XP → Prop
abbrev WA := St' → Mem → (List D → Mem → Prop) → XP → Prop
abbrev WO := St' → Mem → (Option Int → Mem → Prop) → XP → Prop
abbrev WG := D → St' → Mem → (St' → Mem → Prop) → XP → Prop
abbrev WGs := List D → St' → Mem → (St' → Mem → Prop) → XP → Prop
structure Ps where
  nx : St' → Mem → Prop
  rt : D → Mem → Prop
  bk : St' → Mem → Prop := fun _ _ => False
  ct : St' → Mem → Prop := fun _ _ => False
abbrev WS := St' → Mem → Ps → XP → Prop
section
variable (K : Frag) (L : XL)
def Po (G F : Hp) (k : D → Mem → Prop) (Q : VK) : Prop := ∀ F' H' v x M', k x M' → Ex F F' → Fr K G F' H' M' → Is K F' v x → Q v H'
def Sd (te : TE) (we : W) : Prop := ∀ G F H σ ρ M k E (Q : VK), Fr K G F H M → Sto K F σ ρ → L.ok G F E → we ρ M k E → Po K G F k Q → te σ H Q
def SdT (tt : TT) (wt : WT) : Prop := ∀ G F H σ ρ M k E (Q : Bool → Hp → Prop), Fr K G F H M → Sto K F σ ρ → L.ok G F E → wt ρ M k E → (∀ F' H' b M', k b M' → Ex F F' → Fr K G F' H' M' → Q b H') → tt σ H Q
def SdA (ta : TA) (wa : WA) : Prop := ∀ G F H σ ρ M k E (Q : List V → Hp → Prop), Fr K G F H M → Sto K F σ ρ → L.ok G F E → wa ρ M k E → (∀ F' H' vs xs M', k xs M' → Ex F F' → Fr K G F' H' M' → IsAll K F' vs xs → Q vs H') → ta σ H Q
def SdO (to : TO) (wo : WO) : Prop := ∀ G F H σ ρ M k E (Q : Option Int → Hp → Prop), Fr K G F H M → Sto K F σ ρ → L.ok G F E → wo ρ M k E → (∀ F' H' o M', k o M' → Ex F F' → Fr K G F' H' M' → Q o H') → to σ H Q
def PoG (G F : Hp) (k : St' → Mem → Prop) (Q : L2.St → Hp → Prop) : Prop := ∀ F' H' σ' ρ' M', k ρ' M' → Ex F F' → Fr K G F' H' M' → Sto K F' σ' ρ' → Q σ' H'
def SdG (tg : TG) (wg : WG) : Prop := ∀ G F H σ ρ M v x k E (Q : L2.St → Hp → Prop), Fr K G F H M → Sto K F σ ρ → L.ok G F E → Is K F v x → wg x ρ M k E → PoG K G F k Q → tg v σ H Q
def SdGs (tg : TGs) (wg : WGs) : Prop := ∀ G F H σ ρ M vs xs k E (Q : L2.St → Hp → Prop), Fr K G F H M → Sto K F σ ρ → L.ok G F E → IsAll K F vs xs → wg xs ρ M k E → PoG K G F k Q → tg vs σ H Q
def SdS (ts : TS) (ws : WS) : Prop := ∀ G F H σ ρ M P E (D : Ends), Fr K G F H M → Sto K F σ ρ → L.ok G F E → ws ρ M P E → PoG K G F P.nx D.nx → Po K G F P.rt D.rt → PoG K G F P.bk D.bk → PoG K G F P.ct D.ct → ts D σ H
end
section
variable {K : Frag} {L : XL} {G F F' : Hp}
theorem Po.up {k : D → Mem → Prop} {Q : VK} (h : Po K G F k Q) (e : Ex F F') : Po K G F' k Q := fun F2 H' v x M' a b c d => h F2 H' v x M' a (e.trans b) c d
theorem PoG.up {k : St' → Mem → Prop} {Q : L2.St → Hp → Prop} (h : PoG K G F k Q) (e : Ex F F') : PoG K G F' k Q := fun F2 H' v x M' a b c d => h F2 H' v x M' a (e.trans b) c d
/-! ### names, constants -/
def wVar (i : Nat) : W := fun ρ M k _ => match ρ[i]? with
  | some (some x) => k x M
  | _ => False
theorem sd_var {i : Nat} : Sd K L (tVar i) (wVar i) := fun G F H σ ρ M k E Q f s l h q => by
  unfold wVar at h
  split at h
  · rename_i x e
    obtain ⟨v, h1, h2⟩ := s.2 i x e
    exact ⟨v, h1, q F H v x M h (Ex.refl F) f h2⟩
  · cases h
def wC (x : D) : W := fun _ M k _ => k x M
theorem sd_c {v : V} {x : D} (h : ∀ F, Is K F v x) : Sd K L (tC v) (wC x) := fun G F H σ ρ M k E Q f s l hk q => q F H v x M hk (Ex.refl F) f (h F)
theorem sd_int {i : Int} : Sd K L (tC (.int i)) (wC (.int i)) := sd_c fun _ => .int i
theorem sd_str {i : Str} : Sd K L (tC (.str i)) (wC (.str i)) := sd_c fun _ => .str i
theorem sd_bl {i : Bool} : Sd K L (tC (.bl i)) (wC (.bl i)) := sd_c fun _ => .bl i
theorem sd_non : Sd K L (tC .non) (wC .non) := sd_c fun _ => .non
theorem sd_ty {n : String} : Sd K L (tC (.ty n)) (wC (.ty n)) := sd_c fun _ => .ty n
theorem sd_cls {c : Str} : Sd K L (tC (.ref (He.ga K c))) (wC (.cls c)) := sd_c fun _ => .cls c
/-! ### operators by values -/
abbrev D1 := D → Mem → (D → Mem → Prop) → Prop
abbrev D2 := D → D → Mem → (D → Mem → Prop) → Prop
abbrev DA := List D → Mem → (D → Mem → Prop) → Prop
section
variable (K)
def Sd1 (r : V → Hp → VK → Prop) (d : D1) : Prop := ∀ G F H M x v k Q, Fr K G F H M → Is K F v x → d x M k → Po K G F k Q → r v H Q
def Sd2 (r : R2) (d : D2) : Prop := ∀ G F H M x y v u k Q, Fr K G F H M → Is K F v x → Is K F u y → d x y M k → Po K G F k Q → r v u H Q
def SdB (r : List V → Hp → VK → Prop) (d : DA) : Prop := ∀ G F H M xs vs k Q, Fr K G F H M → IsAll K F vs xs → d xs M k → Po K G F k Q → r vs H Q
end
def wOp (d : D2) (wa wb : W) : W := fun ρ M k E => wa ρ M (fun x M1 => wb ρ M1 (fun y M2 => d x y M2 k) E) E
theorem sd_op {r : R2} {d : D2} {ta tb : TE} {wa wb : W} (hr : Sd2 K r d) (ha : Sd K L ta wa) (hb : Sd K L tb wb) : Sd K L (tOp r ta tb) (wOp d wa wb) := fun G F H σ ρ M k E Q f s l h q =>
  ha G F H σ ρ M _ E _ f s l h fun F1 H1 v x M1 h1 e1 f1 i1 => hb G F1 H1 σ ρ M1 _ E _ f1 (s.up e1) (L.mono l e1) h1 fun F2 H2 u y M2 h2 e2 f2 i2 =>
  hr G F2 H2 M2 x y v u k Q f2 (i1.up e2) i2 h2 (q.up (e1.trans e2))
def wUn (d : D1) (wa : W) : W := fun ρ M k E => wa ρ M (fun x M1 => d x M1 k) E
theorem sd_un {r : V → Hp → VK → Prop} {d : D1} {ta : TE} {wa : W} (hr : Sd1 K r d) (ha : Sd K L ta wa) : Sd K L (tUn r ta) (wUn d wa) := fun G F H σ ρ M k E Q f s l h q =>
  ha G F H σ ρ M _ E _ f s l h fun F1 H1 v x M1 h1 e1 f1 i1 => hr G F1 H1 M1 x v k Q f1 i1 h1 (q.up e1)
def waNil : WA := fun _ M k _ => k [] M
def waCons (we : W) (wr : WA) : WA := fun ρ M k E => we ρ M (fun x M1 => wr ρ M1 (fun xs M2 => k (x :: xs) M2) E) E
theorem sda_nil : SdA K L tNil waNil := fun G F H σ ρ M k E Q f s l h q => q F H [] [] M h (Ex.refl F) f .nil
theorem sda_cons {te : TE} {tr : TA} {we : W} {wr : WA} (ha : Sd K L te we) (hb : SdA K L tr wr) : SdA K L (tCons te tr) (waCons we wr) := fun G F H σ ρ M k E Q f s l h q =>
  ha G F H σ ρ M _ E _ f s l h fun F1 H1 v x M1 h1 e1 f1 i1 => hb G F1 H1 σ ρ M1 _ E _ f1 (s.up e1) (L.mono l e1) h1 fun F2 H2 vs xs M2 h2 e2 f2 i2 =>
  q F2 H2 (v :: vs) (x :: xs) M2 h2 (e1.trans e2) f2 (.cons (i1.up e2) i2)
def wCB (d : DA) (wa : WA) : W := fun ρ M k E => wa ρ M (fun xs M1 => d xs M1 k) E
theorem sd_cb {r : List V → Hp → VK → Prop} {d : DA} {ta : TA} {wa : WA} (hr : SdB K r d) (ha : SdA K L ta wa) : Sd K L (tCB r ta) (wCB d wa) := fun G F H σ ρ M k E Q f s l h q =>
  ha G F H σ ρ M _ E _ f s l h fun F1 H1 vs xs M1 h1 e1 f1 i1 => hr G F1 H1 M1 xs vs k Q f1 i1 h1 (q.up e1)
/-- a new list: frozen, or a cell -/
def mkL (m : Bool) (xs : List D) (M : Mem) (k : D → Mem → Prop) : Prop := match m with
  | false => k (.lst xs) M
  | true => ∀ p, M p = none → k (.ref p) (mu M p (.lst xs))
theorem mkL_ok {m : Bool} {H : Hp} {M : Mem} {vs : List V} {xs : List D} {k : D → Mem → Prop} {Q : VK} (f : Fr K G F H M) (i : IsAll K F vs xs) (h : mkL m xs M k) (q : Po K G F k Q) {p : Addr} (n : H p = none) : Q (.ref p) (upd H p (.lst vs)) := by
  cases m with
  | false => exact q _ _ (.ref p) _ M h (f.exl n) (f.laid n) (.lst upd_same (i.up (f.exl n)))
  | true => exact q F _ (.ref p) _ _ (h p (f.mh n)) (Ex.refl F) (f.own n ⟨vs, upd_same, i⟩) (.ref p)
def wTup (wa : WA) : W := fun ρ M k E => wa ρ M (fun xs M1 => Sz xs.length (k (.tup xs) M1)) E
theorem sd_tup {ta : TA} {wa : WA} (ha : SdA K L ta wa) : Sd K L (tTup ta) (wTup wa) := fun G F H σ ρ M k E Q f s l h q =>
  ha G F H σ ρ M _ E _ f s l h fun F1 H1 vs xs M1 h1 e1 f1 i1 => ⟨by rw [i1.len]; exact h1.get.1, fun p n => q _ _ (.ref p) _ M1 h1.get.2 (e1.trans (f1.exl n)) (f1.laid n) (.tup (SqT.of upd_same) (i1.up (f1.exl n)))⟩
def wLst (m : Bool) (wa : WA) : W := fun ρ M k E => wa ρ M (fun xs M1 => Sz xs.length (mkL m xs M1 k)) E
theorem sd_lst {m : Bool} {ta : TA} {wa : WA} (ha : SdA K L ta wa) : Sd K L (tLst ta) (wLst m wa) := fun G F H σ ρ M k E Q f s l h q =>
  ha G F H σ ρ M _ E _ f s l h fun F1 H1 vs xs M1 h1 e1 f1 i1 => ⟨by rw [i1.len]; exact h1.get.1, fun p n => mkL_ok f1 i1 h1.get.2 (q.up e1) n⟩
/-! ### tests -/
structure Br (t : Bool) (A B : Prop) : Prop where
  yes : t = true → A
  no : t = false → B
theorem Br.ite {b : Bool} {A B A' B' : Prop} (h : Br b A B) (h1 : A → A') (h2 : B → B') : if b = true then A' else B' := by
  cases b with
  | true => rw [if_pos rfl]; exact h1 (h.yes rfl)
  | false => rw [if_neg Bool.false_ne_true]; exact h2 (h.no rfl)
/-- a truth value -/
def isB (k : Bool → Mem → Prop) : D → Mem → Prop
  | .bl b, M => k b M
  | _, _ => False
theorem isB_ok {k : Bool → Mem → Prop} {x : D} {M : Mem} {v : V} (h : isB k x M) (i : Is K F v x) : ∃ b, v = .bl b ∧ x = .bl b ∧ k b M := by
  cases i <;> first | exact ⟨_, rfl, rfl, h⟩ | cases h
def wTest (we : W) : WT := fun ρ M k E => we ρ M (isB k) E
theorem sdt_test {te : TE} {we : W} (ha : Sd K L te we) : SdT K L (tTest te) (wTest we) := fun G F H σ ρ M k E Q f s l h q =>
  ha G F H σ ρ M _ E _ f s l h fun F1 H1 v x M1 h1 e1 f1 i1 => by
    obtain ⟨b, rfl, rfl, hb⟩ := isB_ok h1 i1
    exact ⟨b, rfl, q F1 H1 b M1 hb e1 f1⟩
theorem sdt_B {te : TE} {we : W} (ha : Sd K L te we) : SdT K L (tB te) (wTest we) := fun G F H σ ρ M k E Q f s l h q =>
  ha G F H σ ρ M _ E _ f s l h fun F1 H1 v x M1 h1 e1 f1 i1 => by
    obtain ⟨b, rfl, rfl, hb⟩ := isB_ok h1 i1
    exact ⟨b, rfl, q F1 H1 b M1 hb e1 f1⟩
def wAnd (t u : WT) : WT := fun ρ M k E => t ρ M (fun b M1 => Br b (u ρ M1 k E) (k false M1)) E
def wOr (t u : WT) : WT := fun ρ M k E => t ρ M (fun b M1 => Br b (k true M1) (u ρ M1 k E)) E
def wNot (t : WT) : WT := fun ρ M k E => t ρ M (fun b M1 => k (!b) M1) E
theorem sdt_and {t u : TT} {wt wu : WT} (ht : SdT K L t wt) (hu : SdT K L u wu) : SdT K L (tAnd t u) (wAnd wt wu) := fun G F H σ ρ M k E Q f s l h q =>
  ht G F H σ ρ M _ E _ f s l h fun F1 H1 b M1 h1 e1 f1 => h1.ite (fun h2 => hu G F1 H1 σ ρ M1 k E Q f1 (s.up e1) (L.mono l e1) h2 fun F2 H2 b2 M2 h3 e2 f2 => q F2 H2 b2 M2 h3 (e1.trans e2) f2) fun h2 => q F1 H1 _ M1 h2 e1 f1
theorem sdt_or {t u : TT} {wt wu : WT} (ht : SdT K L t wt) (hu : SdT K L u wu) : SdT K L (tOr t u) (wOr wt wu) := fun G F H σ ρ M k E Q f s l h q =>
  ht G F H σ ρ M _ E _ f s l h fun F1 H1 b M1 h1 e1 f1 => h1.ite (fun h2 => q F1 H1 _ M1 h2 e1 f1) (fun h2 => hu G F1 H1 σ ρ M1 k E Q f1 (s.up e1) (L.mono l e1) h2 fun F2 H2 b2 M2 h3 e2 f2 => q F2 H2 b2 M2 h3 (e1.trans e2) f2)
theorem sdt_not {t : TT} {wt : WT} (ht : SdT K L t wt) : SdT K L (tNot t) (wNot wt) := fun G F H σ ρ M k E Q f s l h q =>
  ht G F H σ ρ M _ E _ f s l h fun F1 H1 b M1 h1 e1 f1 => q F1 H1 _ M1 h1 e1 f1
def wIf (t : WT) (wa wb : W) : W := fun ρ M k E => t ρ M (fun b M1 => Br b (wa ρ M1 k E) (wb ρ M1 k E)) E
theorem sd_if {t : TT} {wt : WT} {ta tb : TE} {wa wb : W} (ht : SdT K L t wt) (ha : Sd K L ta wa) (hb : Sd K L tb wb) : Sd K L (tIf t ta tb) (wIf wt wa wb) := fun G F H σ ρ M k E Q f s l h q =>
  ht G F H σ ρ M _ E _ f s l h fun F1 H1 b M1 h1 e1 f1 => h1.ite (fun h2 => ha G F1 H1 σ ρ M1 k E Q f1 (s.up e1) (L.mono l e1) h2 (q.up e1)) (fun h2 => hb G F1 H1 σ ρ M1 k E Q f1 (s.up e1) (L.mono l e1) h2 (q.up e1))
/-- truth of any datum; k gets it -/
def trD : D → Mem → (Bool → Prop) → Prop
  | .non, _, k => k false
  | .bl b, _, k => k b
  | .int i, _, k => k (i != 0)
  | .str s, _, k => Sz s.length (k ((s.length : Int) != 0))
  | .lst xs, _, k => k (!xs.isEmpty)
  | .tup xs, _, k => k (!xs.isEmpty)
  | .ref a, M, k => cellL a M fun xs => k (!xs.isEmpty)
  | _, _, _ => False
theorem trD_ok {H : Hp} {M : Mem} {x : D} {v : V} {k : Bool → Prop} (f : Fr K G F H M) (i : Is K F v x) (h : trD x M k) : ∃ b, TruV K v H b ∧ k b := by
  have key : ∀ {vs : List V} {xs : List D}, IsAll K F vs xs → (!xs.isEmpty) = !vs.isEmpty := fun {vs xs} q => by cases q <;> rfl
  cases i with
  | non => exact ⟨_, rfl, h⟩
  | bl b => exact ⟨_, rfl, h⟩
  | int i => exact ⟨_, rfl, h⟩
  | str z => exact ⟨_, ⟨(Sz.get h).1, rfl⟩, (Sz.get h).2⟩
  | ty n => cases h
  | lst h1 h2 => exact ⟨_, .inl ⟨_, .inl (.inl (f.fh _ _ h1)), key h2⟩, h⟩
  | tup h1 h2 => exact ⟨_, .inr (.inl ⟨_, Evl.ex_t f.fh h1, key h2⟩), h⟩
  | ins _ _ _ _ => cases h
  | cls c => cases h
  | ref a =>
    obtain ⟨xs, e, hk⟩ := cellL.get h
    obtain ⟨_, vs, q1, q2⟩ := f.mc a _ e
    exact ⟨_, .inl ⟨vs, .inl (.inl q1), key q2⟩, hk⟩
  | scr h1 => cases h
  | tux _ h1 _ _ => cases h
def wTru (we : W) : WT := fun ρ M k E => we ρ M (fun x M1 => trD x M1 fun b => k b M1) E
theorem sdt_tru {te : TE} {we : W} (ha : Sd K L te we) : SdT K L (tTru K te) (wTru we) := fun G F H σ ρ M k E Q f s l h q =>
  ha G F H σ ρ M _ E _ f s l h fun F1 H1 v x M1 h1 e1 f1 i1 => by
    obtain ⟨b, hb, hk⟩ := trD_ok f1 i1 h1
    exact ⟨b, hb, q F1 H1 b M1 hk e1 f1⟩
def wOrT (wa wb : W) : W := fun ρ M k E => wa ρ M (fun x M1 => trD x M1 fun b => Br b (k x M1) (wb ρ M1 k E)) E
def wAndT (wa wb : W) : W := fun ρ M k E => wa ρ M (fun x M1 => trD x M1 fun b => Br b (wb ρ M1 k E) (k x M1)) E
def wNotT (wa : W) : W := fun ρ M k E => wa ρ M (fun x M1 => trD x M1 fun b => k (.bl (!b)) M1) E
theorem sd_orT {ta tb : TE} {wa wb : W} (ha : Sd K L ta wa) (hb : Sd K L tb wb) : Sd K L (tOrT K ta tb) (wOrT wa wb) := fun G F H σ ρ M k E Q f s l h q =>
  ha G F H σ ρ M _ E _ f s l h fun F1 H1 v x M1 h1 e1 f1 i1 => by
    obtain ⟨b, ht, hk⟩ := trD_ok f1 i1 h1
    exact ⟨b, ht, hk.ite (fun h2 => q F1 H1 v x M1 h2 e1 f1 i1) fun h2 => hb G F1 H1 σ ρ M1 k E Q f1 (s.up e1) (L.mono l e1) h2 (q.up e1)⟩
theorem sd_andT {ta tb : TE} {wa wb : W} (ha : Sd K L ta wa) (hb : Sd K L tb wb) : Sd K L (tAndT K ta tb) (wAndT wa wb) := fun G F H σ ρ M k E Q f s l h q =>
  ha G F H σ ρ M _ E _ f s l h fun F1 H1 v x M1 h1 e1 f1 i1 => by
    obtain ⟨b, ht, hk⟩ := trD_ok f1 i1 h1
    exact ⟨b, ht, hk.ite (fun h2 => hb G F1 H1 σ ρ M1 k E Q f1 (s.up e1) (L.mono l e1) h2 (q.up e1)) fun h2 => q F1 H1 v x M1 h2 e1 f1 i1⟩
theorem sd_notT {ta : TE} {wa : W} (ha : Sd K L ta wa) : Sd K L (tNotT K ta) (wNotT wa) := fun G F H σ ρ M k E Q f s l h q =>
  ha G F H σ ρ M _ E _ f s l h fun F1 H1 v x M1 h1 e1 f1 i1 => by
    obtain ⟨b, ht, hk⟩ := trD_ok f1 i1 h1
    exact ⟨b, ht, q F1 H1 _ _ M1 hk e1 f1 (.bl _)⟩
def wChain (d d' : D2) (wa wb wc : W) : W := fun ρ M k E => wa ρ M (fun x M1 => wb ρ M1 (fun y M2 => d x y M2 (isB fun b M3 => Br b (wc ρ M3 (fun z M4 => d' y z M4 k) E) (k (.bl false) M3))) E) E
theorem sd_chain {r r' : R2} {d d' : D2} {ta tb tc : TE} {wa wb wc : W} (hr : Sd2 K r d) (hr' : Sd2 K r' d') (ha : Sd K L ta wa) (hb : Sd K L tb wb) (hc : Sd K L tc wc) : Sd K L (tChain r r' ta tb tc) (wChain d d' wa wb wc) := fun G F H σ ρ M k E Q f s l h q =>
  ha G F H σ ρ M _ E _ f s l h fun F1 H1 v x M1 h1 e1 f1 i1 => hb G F1 H1 σ ρ M1 _ E _ f1 (s.up e1) (L.mono l e1) h1 fun F2 H2 u y M2 h2 e2 f2 i2 =>
  hr G F2 H2 M2 x y v u _ _ f2 (i1.up e2) i2 h2 fun F3 H3 w z M3 h3 e3 f3 i3 => by
    obtain ⟨b, rfl, rfl, hb'⟩ := isB_ok h3 i3
    have e13 := (e1.trans e2).trans e3
    exact ⟨b, rfl, hb'.ite (fun h4 => hc G F3 H3 σ ρ M3 _ E _ f3 (s.up e13) (L.mono l e13) h4 fun F4 H4 w4 z4 M4 h5 e4 f4 i4 => hr' G F4 H4 M4 y z4 u w4 k Q f4 (i2.up (e3.trans e4)) i4 h5 (q.up (e13.trans e4)))
      fun h4 => q F3 H3 _ _ M3 h4 e13 f3 (.bl _)⟩
/-! ### statements -/
def wNext : WS := fun ρ M P _ => P.nx ρ M
def wBrk : WS := fun ρ M P _ => P.bk ρ M
def wCont : WS := fun ρ M P _ => P.ct ρ M
def wSeq (s t : WS) : WS := fun ρ M P E => s ρ M { P with nx := fun ρ' M' => t ρ' M' P E } E
def wDrop (we : W) : WS := fun ρ M P E => we ρ M (fun _ M1 => P.nx ρ M1) E
def wRet (we : W) : WS := fun ρ M P E => we ρ M P.rt E
def wRetN : WS := fun ρ M P E => P.rt .non M
def wIfS (t : WT) (a b : WS) : WS := fun ρ M P E => t ρ M (fun c M1 => Br c (a ρ M1 P E) (b ρ M1 P E)) E
def wAsg (we : W) (g : WG) : WS := fun ρ M P E => we ρ M (fun x M1 => g x ρ M1 P.nx E) E
def wNever : WS := fun _ _ _ _ => False
theorem sds_next : SdS K L tNext wNext := fun G F H σ ρ M P E D f s l h a b c d => a F H σ ρ M h (Ex.refl F) f s
theorem sds_brk : SdS K L tBreak wBrk := fun G F H σ ρ M P E D f s l h a b c d => c F H σ ρ M h (Ex.refl F) f s
theorem sds_cont : SdS K L tCont wCont := fun G F H σ ρ M P E D f s l h a b c d => d F H σ ρ M h (Ex.refl F) f s
theorem sds_never : SdS K L tNever wNever := fun G F H σ ρ M P E D f s l h a b c d => h.elim
theorem sds_seq {t u : TS} {wt wu : WS} (ht : SdS K L t wt) (hu : SdS K L u wu) : SdS K L (tSeq t u) (wSeq wt wu) := fun G F H σ ρ M P E D f s l h a b c d =>
  ht G F H σ ρ M _ E _ f s l h (fun F1 H1 σ1 ρ1 M1 h1 e1 f1 s1 => hu G F1 H1 σ1 ρ1 M1 P E D f1 s1 (L.mono l e1) h1 (a.up e1) (b.up e1) (c.up e1) (d.up e1)) b c d
theorem sds_drop {te : TE} {we : W} (ha : Sd K L te we) : SdS K L (tDrop te) (wDrop we) := fun G F H σ ρ M P E D f s l h a b c d =>
  ha G F H σ ρ M _ E _ f s l h fun F1 H1 v x M1 h1 e1 f1 i1 => a F1 H1 σ ρ M1 h1 e1 f1 (s.up e1)
theorem sds_ret {te : TE} {we : W} (ha : Sd K L te we) : SdS K L (tRet te) (wRet we) := fun G F H σ ρ M P E D f s l h a b c d => ha G F H σ ρ M _ E _ f s l h b
theorem sds_retN : SdS K L tRetN wRetN := fun G F H σ ρ M P E D f s l h a b c d => b F H .non .non M h (Ex.refl F) f .non
theorem sds_if {t : TT} {u v : TS} {wt : WT} {wu wv : WS} (ht : SdT K L t wt) (hu : SdS K L u wu) (hv : SdS K L v wv) : SdS K L (tIfS t u v) (wIfS wt wu wv) := fun G F H σ ρ M P E D f s l h a b c d =>
  ht G F H σ ρ M _ E _ f s l h fun F1 H1 bb M1 h1 e1 f1 => h1.ite (fun h2 => hu G F1 H1 σ ρ M1 P E D f1 (s.up e1) (L.mono l e1) h2 (a.up e1) (b.up e1) (c.up e1) (d.up e1)) (fun h2 => hv G F1 H1 σ ρ M1 P E D f1 (s.up e1) (L.mono l e1) h2 (a.up e1) (b.up e1) (c.up e1) (d.up e1))
theorem sds_asg {te : TE} {we : W} {tg : TG} {wg : WG} (ha : Sd K L te we) (hg : SdG K L tg wg) : SdS K L (tAsg te tg) (wAsg we wg) := fun G F H σ ρ M P E D f s l h a b c d =>
  ha G F H σ ρ M _ E _ f s l h fun F1 H1 v x M1 h1 e1 f1 i1 => hg G F1 H1 σ ρ M1 v x _ E _ f1 (s.up e1) (L.mono l e1) i1 h1 (a.up e1)
/-- ghosts: a slot's cell is frozen, forgotten; a datum is frozen -/
@[irreducible] def frzD (x : D) (M : Mem) (k : D → Mem → Prop) : Prop := ∃ a c, x = .ref a ∧ M a = some c ∧ k c.toD (er M a)
theorem frzD.get {x : D} {M : Mem} {k : D → Mem → Prop} (h : frzD x M k) : ∃ a c, x = .ref a ∧ M a = some c ∧ k c.toD (er M a) := by unfold frzD at h; exact h
theorem frz_of {a : Addr} {c : Cell} {M : Mem} {k : D → Mem → Prop} (e : M a = some c) (h : k c.toD (er M a)) : frzD (.ref a) M k := by unfold frzD; exact ⟨a, c, rfl, e, h⟩
theorem frz_mu {a : Addr} {c : Cell} {M : Mem} {k : D → Mem → Prop} (e : M a = none) (h : k c.toD M) : frzD (.ref a) (mu M a c) k := frz_of mu_same (by rw [er_mu e]; exact h)
def wFrz (i : Nat) : WS := fun ρ M P _ => match ρ[i]? with
  | some (some x) => frzD x M fun y M' => P.nx (ρ.set i (some y)) M'
  | _ => False
def wKill (l : List Nat) (w : WS) : WS := fun ρ M P E => w (wipe' ρ l) M P E
theorem sds_frz {t : TS} {w : WS} {i : Nat} (h0 : SdS K L t w) : SdS K L t (wSeq (wFrz i) w) := fun G F H σ ρ M P E D f s l h a b c d => by
  have h : (match ρ[i]? with
    | some (some x) => frzD x M fun y M' => w (ρ.set i (some y)) M' P E
    | _ => False) := h
  split at h
  case h_2 => exact h.elim
  rename_i x h1
  obtain ⟨p, cc, rfl, h2, h3⟩ := h.get
  obtain ⟨v, q1, q2⟩ := s.2 i _ h1
  cases q2
  obtain ⟨F', ex, f', is⟩ := f.frz h2
  have e : σ.set i (some (V.ref p)) = σ := by
    refine List.ext_getElem? fun j => ?_
    by_cases ej : i = j
    · subst ej; rw [List.getElem?_set_self (List.getElem?_eq_some_iff.mp q1).1, q1]
    · rw [List.getElem?_set_ne ej]
  have s' := (s.up ex).set is i
  rw [e] at s'
  exact h0 G F' H σ _ _ P E D f' s' (L.mono l ex) h3 (a.up ex) (b.up ex) (c.up ex) (d.up ex)
theorem sds_kill {t : TS} {w : WS} {l : List Nat} (h0 : SdS K L t w) : SdS K L t (wKill l w) := fun G F H σ ρ M P E D f s x h a b c d => h0 G F H σ _ M P E D f (s.kills l) x h a b c d
/-- e, frozen -/
def wFz (we : W) : W := fun ρ M k E => we ρ M (fun x M1 => frzD x M1 k) E
theorem sd_fz {te : TE} {we : W} (ha : Sd K L te we) : Sd K L te (wFz we) := fun G F H σ ρ M k E Q f s l h q =>
  ha G F H σ ρ M _ E _ f s l h fun F1 H1 v x M1 h1 e1 f1 i1 => by
    obtain ⟨p, cc, rfl, h2, h3⟩ := h1.get
    cases i1
    obtain ⟨F', ex, f', is⟩ := f1.frz h2
    exact q F' H1 _ _ _ h3 (e1.trans ex) f' is
/-- e, some slots' cells forgotten -/
def drops : List Nat → St' → Mem → (Mem → Prop) → Prop
  | [], _, M, k => k M
  | i :: is, ρ, M, k => match ρ[i]? with
    | some (some (.ref a)) => ern a M fun M' => drops is ρ M' k
    | _ => drops is ρ M k
theorem Fr.drops {H : Hp} {ρ : St'} {k : Mem → Prop} : ∀ (l : List Nat) {M : Mem}, Fr K G F H M → Px.drops l ρ M k → ∃ M', Fr K G F H M' ∧ k M'
  | [], M, f, h => ⟨M, f, h⟩
  | i :: is, M, f, h => by
    unfold Px.drops at h
    split at h
    · exact Fr.drops is (f.drop _) h.get
    · exact Fr.drops is f h
def wDp (l : List Nat) (we : W) : W := fun ρ M k E => we ρ M (fun x M1 => drops l ρ M1 fun M2 => k x M2) E
theorem sd_dp {te : TE} {we : W} {l : List Nat} (ha : Sd K L te we) : Sd K L te (wDp l we) := fun G F H σ ρ M k E Q f s x h q =>
  ha G F H σ ρ M _ E _ f s x h fun F1 H1 v y M1 h1 e1 f1 i1 => by
    obtain ⟨M2, f2, hk⟩ := f1.drops l h1
    exact q F1 H1 v y _ hk e1 f2 i1
/-! ### targets -/
def wgName (i : Nat) : WG := fun x ρ M k _ => k (ρ.set i (some x)) M
theorem sdg_name {i : Nat} : SdG K L (gName i) (wgName i) := fun G F H σ ρ M v x k E Q f s l is h q => q F H _ _ M h (Ex.refl F) f (s.set is i)
def wgNil : WGs := fun xs ρ M k _ => match xs with
  | [] => k ρ M
  | _ => False
def wgCons (g : WG) (gs : WGs) : WGs := fun xs ρ M k E => match xs with
  | x :: r => g x ρ M (fun ρ1 M1 => gs r ρ1 M1 k E) E
  | [] => False
theorem sdgs_nil : SdGs K L gNil wgNil := fun G F H σ ρ M vs xs k E Q f s l is h q => by
  cases is with
  | nil => exact ⟨rfl, q F H σ ρ M h (Ex.refl F) f s⟩
  | cons _ _ => cases h
theorem sdgs_cons {g : TG} {gs : TGs} {wg : WG} {wgs : WGs} (h1 : SdG K L g wg) (h2 : SdGs K L gs wgs) : SdGs K L (gCons g gs) (wgCons wg wgs) := fun G F H σ ρ M vs xs k E Q f s l is h q => by
  cases is with
  | nil => cases h
  | cons a b => exact ⟨_, _, rfl, h1 G F H σ ρ M _ _ _ E _ f s l a h fun F1 H1 σ1 ρ1 M1 q1 e1 f1 s1 => h2 G F1 H1 σ1 ρ1 M1 _ _ k E Q f1 s1 (L.mono l e1) (b.up e1) q1 (q.up e1)⟩
/-- a count -/
def Ck : Nat → List D → Prop → Prop
  | 0, [], P => P
  | n + 1, _ :: xs, P => Ck n xs P
  | _, _, _ => False
theorem Ck.get : ∀ {n : Nat} {xs : List D} {P : Prop}, Ck n xs P → xs.length = n ∧ P
  | 0, [], _, h => ⟨rfl, h⟩
  | n + 1, _ :: xs, _, h => by
    obtain ⟨h1, h2⟩ := Ck.get (n := n) (xs := xs) h
    exact ⟨by rw [List.length_cons, h1], h2⟩
  | 0, _ :: _, _, h => by cases h
  | _ + 1, [], _, h => by cases h
def wgTup (n : Nat) (gs : WGs) : WG := fun x ρ M k E => match x with
  | .tup xs => Ck n xs (gs xs ρ M k E)
  | _ => False
theorem sdg_tup {n : Nat} {gs : TGs} {wgs : WGs} (h2 : SdGs K L gs wgs) : SdG K L (gTup K n gs) (wgTup n wgs) := fun G F H σ ρ M v x k E Q f s l is h q => by
  cases is with
  | tup a b => exact ⟨_, _, rfl, Evl.ex_t f.fh a, by rw [b.len]; exact (Ck.get h).1, h2 G F H σ ρ M _ _ k E Q f s l b (Ck.get h).2 q⟩
  | _ => cases h
/-- o[i] = x -/
@[irreducible] def setD (o i x : D) (M : Mem) (k : Mem → Prop) : Prop := ∃ a j xs n, o = .ref a ∧ i = .int j ∧ M a = some (.lst xs) ∧ ixN xs.length j = some n ∧ k (mu M a (.lst (xs.set n x)))
theorem setD.get {o i x : D} {M : Mem} {k : Mem → Prop} (h : setD o i x M k) : ∃ a j xs n, o = .ref a ∧ i = .int j ∧ M a = some (.lst xs) ∧ ixN xs.length j = some n ∧ k (mu M a (.lst (xs.set n x))) := by unfold setD at h; exact h
theorem set_of {a : Addr} {j : Int} {x : D} {M : Mem} {xs : List D} {n : Nat} {k : Mem → Prop} (e : M a = some (.lst xs)) (hn : ixN xs.length j = some n) (h : k (mu M a (.lst (xs.set n x)))) : setD (.ref a) (.int j) x M k := by unfold setD; exact ⟨a, j, xs, n, rfl, rfl, e, hn, h⟩
theorem set_mu {a : Addr} {j : Int} {x : D} {M : Mem} {xs : List D} {n : Nat} {k : Mem → Prop} (hn : ixN xs.length j = some n) (h : k (mu M a (.lst (xs.set n x)))) : setD (.ref a) (.int j) x (mu M a (.lst xs)) k := set_of mu_same hn (by rw [mu_mu]; exact h)
def wgSub (wo wi : W) : WG := fun x ρ M k E => wo ρ M (fun o M1 => wi ρ M1 (fun i M2 => setD o i x M2 fun M3 => k ρ M3) E) E
theorem sdg_sub {to ti : TE} {wo wi : W} (ho : Sd K L to wo) (hi : Sd K L ti wi) : SdG K L (gSub to ti rSetL) (wgSub wo wi) := fun G F H σ ρ M v x k E Q f s l is h q =>
  ho G F H σ ρ M _ E _ f s l h fun F1 H1 v1 x1 M1 h1 e1 f1 i1 => hi G F1 H1 σ ρ M1 _ E _ f1 (s.up e1) (L.mono l e1) h1 fun F2 H2 u y M2 h2 e2 f2 i2 => by
    obtain ⟨a, j, xs, n, rfl, rfl, h3, h4, h5⟩ := h2.get
    cases i1
    cases i2
    obtain ⟨_, vs, q1, q2⟩ := f2.mc a _ h3
    exact ⟨a, vs, j, n, rfl, rfl, q1, by rw [q2.len]; exact h4, q F2 _ σ ρ _ h5 (e1.trans e2) (f2.chg h3 ⟨_, upd_same, q2.set n (is.up (e1.trans e2))⟩) (s.up (e1.trans e2))⟩
def wPar (i j : Nat) (wa : WA) : WS := fun ρ M P E => wa ρ M (fun xs M1 => match xs with
  | [x, y] => P.nx ((ρ.set i (some x)).set j (some y)) M1
  | _ => False) E
def wPar3 (i j m : Nat) (wa : WA) : WS := fun ρ M P E => wa ρ M (fun xs M1 => match xs with
  | [x, y, z] => P.nx (((ρ.set i (some x)).set j (some y)).set m (some z)) M1
  | _ => False) E
theorem sds_par {i j : Nat} {ta : TA} {wa : WA} (ha : SdA K L ta wa) : SdS K L (tPar i j ta) (wPar i j wa) := fun G F H σ ρ M P E D f s l h a b c d =>
  ha G F H σ ρ M _ E _ f s l h fun F1 H1 vs xs M1 h1 e1 f1 i1 => by
    split at h1
    case h_2 => exact h1.elim
    cases i1 with
    | cons i1 r => cases r with
      | cons i2 r => cases r; exact ⟨_, _, rfl, a F1 H1 _ _ M1 h1 e1 f1 (((s.up e1).set i1 i).set i2 j)⟩
theorem sds_par3 {i j m : Nat} {ta : TA} {wa : WA} (ha : SdA K L ta wa) : SdS K L (tPar3 i j m ta) (wPar3 i j m wa) := fun G F H σ ρ M P E D f s l h a b c d =>
  ha G F H σ ρ M _ E _ f s l h fun F1 H1 vs xs M1 h1 e1 f1 i1 => by
    split at h1
    case h_2 => exact h1.elim
    cases i1 with
    | cons i1 r => cases r with
      | cons i2 r => cases r with
        | cons i3 r => cases r; exact ⟨_, _, _, rfl, a F1 H1 _ _ M1 h1 e1 f1 ((((s.up e1).set i1 i).set i2 j).set i3 m)⟩
/-- parts of slices -/
def woNone : WO := fun _ M k _ => k none M
def woSome (we : W) : WO := fun ρ M k E => we ρ M (fun x M1 => match x with
  | .int i => k (some i) M1
  | _ => False) E
theorem sdo_none : SdO K L tNoPart woNone := fun G F H σ ρ M k E Q f s l h q => q F H none M h (Ex.refl F) f
theorem sdo_some {te : TE} {we : W} (ha : Sd K L te we) : SdO K L (tPart te) (woSome we) := fun G F H σ ρ M k E Q f s l h q =>
  ha G F H σ ρ M _ E _ f s l h fun F1 H1 v x M1 h1 e1 f1 i1 => by
    cases i1 <;> first | exact ⟨_, rfl, q F1 H1 _ M1 h1 e1 f1⟩ | cases h1
end
end Px

set_option Elab.async false
set_option linter.all false
set_option maxRecDepth 100000
set_option maxHeartbeats 4000000
/-! Loops, comprehensions, fields, calls. -/
namespace Px
open PySem PySem.Spec PyProof.Rows L2 Rl RZ RT
open Evl (Ex)
section
variable {K : Frag} {L : XL} {G F F' : Hp}
/-! ### what is walked -/
/-- the items; the lists that must not change meanwhile -/
structure Its where
  xs : List D
  gd : List (Addr × List D) := []
def Gd : List (Addr × List D) → Mem → Prop → Prop
  | [], _, P => P
  | (a, ys) :: gs, M, P => M a = some (.lst ys) ∧ Gd gs M P
theorem Gd.get {M : Mem} {P : Prop} : ∀ {gs : List (Addr × List D)}, Gd gs M P → (∀ p ∈ gs, M p.1 = some (.lst p.2)) ∧ P
  | [], h => ⟨(fun p hp => by cases hp), h⟩
  | (a, ys) :: gs, h => by
    obtain ⟨h1, h2⟩ := h
    obtain ⟨h3, h4⟩ := Gd.get h2
    refine ⟨fun p hp => ?_, h4⟩
    rcases List.mem_cons.mp hp with e | e
    · subst e; exact h1
    · exact h3 p e
abbrev WI := St' → Mem → (Its → Mem → Prop) → XP → Prop
def GdM (gs : List (Addr × List D)) (M : Mem) : Prop := ∀ p ∈ gs, M p.1 = some (.lst p.2)
structure ItOk (K : Frag) (G F : Hp) (J : It) (I : Its) : Prop where
  go : ∀ (i : Nat) (G1 F1 H1 : Hp) (M : Mem), i < I.xs.length → Ex F F1 → Fr K G1 F1 H1 M → GdM I.gd M → J.go i H1
  stop : ∀ (i : Nat) (G1 F1 H1 : Hp) (M : Mem), I.xs.length ≤ i → Ex F F1 → Fr K G1 F1 H1 M → GdM I.gd M → J.stop i H1
  yld : ∀ (i : Nat) (G1 F1 H1 : Hp) (M : Mem) (v : V) (H2 : Hp) (x : D), I.xs[i]? = some x → Ex F F1 → Fr K G1 F1 H1 M → GdM I.gd M → J.yld i H1 v H2 → ∃ F2, Ex F1 F2 ∧ Fr K G1 F2 H2 M ∧ Is K F2 v x
section
variable (K) (L)
def SdI (wi : TI) (wj : WI) : Prop := ∀ G F H σ ρ M k E (R : It → Hp → Prop), Fr K G F H M → Sto K F σ ρ → L.ok G F E → wj ρ M k E → (∀ F' H' J I M', k I M' → Ex F F' → Fr K G F' H' M' → ItOk K G F' J I → R J H') → wi σ H R
end
/-- a list or tuple that is read: its items; where it must not change -/
def asL : D → Mem → (List D → List (Addr × List D) → Prop) → Prop
  | .lst xs, _, k => k xs []
  | .ref a, M, k => cellL a M fun xs => k xs [(a, xs)]
  | _, _, _ => False
/-- a list at a, whatever holds it -/
def LAt (K : Frag) (F : Hp) (a : Addr) (xs : List D) (gd : List (Addr × List D)) : Prop := (gd = [] ∧ ∃ vs, F a = some (.lst vs) ∧ IsAll K F vs xs) ∨ gd = [(a, xs)]
theorem LAt.up {a : Addr} {xs : List D} {gd : List (Addr × List D)} (h : LAt K F a xs gd) (e : Ex F F') : LAt K F' a xs gd := by
  rcases h with ⟨h1, vs, h2, h3⟩ | h
  · exact .inl ⟨h1, vs, e _ _ h2, h3.up e⟩
  · exact .inr h
theorem LAt.get {a : Addr} {xs : List D} {gd : List (Addr × List D)} {G1 H1 : Hp} {M : Mem} (h : LAt K F a xs gd) (f : Fr K G1 F H1 M) (g : GdM gd M) : ∃ vs, H1 a = some (.lst vs) ∧ IsAll K F vs xs := by
  rcases h with ⟨h1, vs, h2, h3⟩ | h
  · exact ⟨vs, f.fh _ _ h2, h3⟩
  · subst h
    have := g (a, xs) (by simp)
    exact (f.mc _ _ this).2
theorem asL_ok {x : D} {v : V} {M : Mem} {H : Hp} {k : List D → List (Addr × List D) → Prop} (f : Fr K G F H M) (i : Is K F v x) (h : asL x M k) : ∃ a xs gd, v = .ref a ∧ LAt K F a xs gd ∧ GdM gd M ∧ k xs gd := by
  cases i with
  | lst h1 h2 => exact ⟨_, _, _, rfl, .inl ⟨rfl, _, h1, h2⟩, (fun p hp => by cases hp), h⟩
  | ref a =>
    obtain ⟨xs, e, hk⟩ := cellL.get h
    exact ⟨a, xs, _, rfl, .inr rfl, (fun p hp => by rw [List.mem_singleton.mp hp]; exact e), hk⟩
  | _ => cases h
theorem itok_l {a : Addr} {xs : List D} {gd : List (Addr × List D)} (h : LAt K F a xs gd) : ItOk K G F (Itl K a) ⟨xs, gd⟩ where
  go := fun i G1 F1 H1 M hi e f g => by
    obtain ⟨vs, h1, h2⟩ := (h.up e).get f g
    exact ⟨vs, vs[i]'(by rw [h2.len]; exact hi), Evl.sq_of h1, List.getElem?_eq_getElem _⟩
  stop := fun i G1 F1 H1 M hi e f g => by
    obtain ⟨vs, h1, h2⟩ := (h.up e).get f g
    exact ⟨vs, Evl.sq_of h1, by rw [h2.len]; exact hi⟩
  yld := fun i G1 F1 H1 M v H2 x hx e f g ⟨eh, q⟩ => by
    subst eh
    obtain ⟨vs, h1, h2⟩ := (h.up e).get f g
    have z := q vs (Evl.sq_of h1)
    obtain ⟨u, hu, is⟩ := h2.get hx
    rw [z] at hu; cases hu
    exact ⟨F1, Ex.refl F1, f, is⟩
theorem itok_t {a : Addr} {vs : List V} {xs : List D} (h : SqT K F a vs) (i1 : IsAll K F vs xs) : ItOk K G F (Itt K a) ⟨xs, []⟩ where
  go := fun i G1 F1 H1 M hi e f g => ⟨vs, vs[i]'(by rw [i1.len]; exact hi), Evl.ex_t (e.trans f.fh) h, List.getElem?_eq_getElem _⟩
  stop := fun i G1 F1 H1 M hi e f g => ⟨vs, Evl.ex_t (e.trans f.fh) h, by rw [i1.len]; exact hi⟩
  yld := fun i G1 F1 H1 M v H2 x hx e f g ⟨eh, q⟩ => by
    subst eh
    have z := q vs (Evl.ex_t (e.trans f.fh) h)
    obtain ⟨u, hu, is⟩ := i1.get hx
    rw [z] at hu; cases hu
    exact ⟨F1, Ex.refl F1, f, is.up e⟩
/-- lo, lo + 1, .. (n of them); by steps of c -/
@[irreducible] def irng (lo : Int) (n : Nat) : List Int := (List.range n).map fun i : Nat => lo + i
@[irreducible] def irngC (lo c : Int) (n : Nat) : List Int := (List.range n).map fun i : Nat => lo + i * c
abbrev rngD (lo : Int) (n : Nat) : List D := Li (irng lo n)
theorem itok_r {lo : Int} {n : Nat} : ItOk K G F (Itr lo n) ⟨rngD lo n, []⟩ where
  go := fun i G1 F1 H1 M hi e f g => by
    have h : i < n := by simpa [irng] using hi
    exact h
  stop := fun i G1 F1 H1 M hi e f g => by
    have h : n ≤ i := by simpa [irng] using hi
    exact h
  yld := fun i G1 F1 H1 M v H2 x hx e f g ⟨eh, q⟩ => by
    subst eh q
    refine ⟨F1, Ex.refl F1, f, ?_⟩
    have hx : (Li (irng lo n))[i]? = some x := hx
    rw [List.getElem?_map] at hx
    obtain ⟨j, hj, ex⟩ := Option.map_eq_some_iff.mp hx
    unfold irng at hj
    rw [List.getElem?_map] at hj
    obtain ⟨p, hp, e⟩ := Option.map_eq_some_iff.mp hj
    obtain ⟨h1, h2⟩ := List.getElem?_eq_some_iff.mp hp
    rw [List.getElem_range] at h2
    subst h2 e ex
    exact .int _
abbrev rngC (lo c : Int) (n : Nat) : List D := Li (irngC lo c n)
theorem itok_c {lo c : Int} {n : Nat} : ItOk K G F (Itc lo c n) ⟨rngC lo c n, []⟩ where
  go := fun i G1 F1 H1 M hi e f g => by
    have h : i < n := by simpa [irngC] using hi
    exact h
  stop := fun i G1 F1 H1 M hi e f g => by
    have h : n ≤ i := by simpa [irngC] using hi
    exact h
  yld := fun i G1 F1 H1 M v H2 x hx e f g ⟨eh, q⟩ => by
    subst eh q
    refine ⟨F1, Ex.refl F1, f, ?_⟩
    have hx : (Li (irngC lo c n))[i]? = some x := hx
    rw [List.getElem?_map] at hx
    obtain ⟨j, hj, ex⟩ := Option.map_eq_some_iff.mp hx
    unfold irngC at hj
    rw [List.getElem?_map] at hj
    obtain ⟨p, hp, e⟩ := Option.map_eq_some_iff.mp hj
    obtain ⟨h1, h2⟩ := List.getElem?_eq_some_iff.mp hp
    rw [List.getElem_range] at h2
    subst h2 e ex
    exact .int _
def wiAny (we : W) : WI := fun ρ M k E => we ρ M (fun x M1 => match x with
  | .tup xs => k ⟨xs, []⟩ M1
  | x => asL x M1 fun xs gd => k ⟨xs, gd⟩ M1) E
theorem sdi_any {te : TE} {we : W} (ha : Sd K L te we) : SdI K L (iSeq K te) (wiAny we) := fun G F H σ ρ M k E R f s l h q =>
  ha G F H σ ρ M _ E _ f s l h fun F1 H1 v x M1 h1 e1 f1 i1 => by
    have key : asL x M1 (fun xs gd => k ⟨xs, gd⟩ M1) → ∃ a, v = V.ref a ∧ (((∃ xs, SqL K H1 a xs) ∧ R (Itl K a) H1) ∨ ((∃ xs, SqT K H1 a xs) ∧ R (Itt K a) H1)) := fun h2 => by
      obtain ⟨a, xs, gd, rfl, la, g, hk⟩ := asL_ok f1 i1 h2
      obtain ⟨vs, q1, q2⟩ := la.get f1 g
      exact ⟨a, rfl, .inl ⟨⟨vs, Evl.sq_of q1⟩, q F1 H1 _ _ M1 hk e1 f1 (itok_l la)⟩⟩
    cases x with
    | tup xs =>
      cases i1 with
      | tup a b => exact ⟨_, rfl, .inr ⟨⟨_, Evl.ex_t f1.fh a⟩, q F1 H1 _ _ M1 h1 e1 f1 (itok_t a b)⟩⟩
    | _ => exact key h1
@[irreducible] def Rg (j : Int) (P : Prop) : Prop := (-(2 ^ 62) ≤ j ∧ j < 2 ^ 62) ∧ P
theorem Rg.get {j : Int} {P : Prop} (h : Rg j P) : (-(2 ^ 62) ≤ j ∧ j < 2 ^ 62) ∧ P := by unfold Rg at h; exact h
theorem rg {j : Int} {P : Prop} (h1 : -(2 ^ 62) ≤ j ∧ j < 2 ^ 62) (h : P) : Rg j P := by unfold Rg; exact ⟨h1, h⟩
@[irreducible] def Rg3 (i j c : Int) (k : Nat → Prop) : Prop := ∃ n, RgC i j c n ∧ k n
theorem Rg3.get {i j c : Int} {k : Nat → Prop} (h : Rg3 i j c k) : ∃ n, RgC i j c n ∧ k n := by unfold Rg3 at h; exact h
theorem rg3 {i j c : Int} {n : Nat} {k : Nat → Prop} (h1 : RgC i j c n) (h : k n) : Rg3 i j c k := by unfold Rg3; exact ⟨n, h1, h⟩
def wiR1 (wa : WA) : WI := fun ρ M k E => wa ρ M (fun xs M1 => match xs with
  | [.int j] => Rg j (k ⟨rngD 0 j.toNat, []⟩ M1)
  | _ => False) E
def wiR2 (wa : WA) : WI := fun ρ M k E => wa ρ M (fun xs M1 => match xs with
  | [.int i, .int j] => Rg i (Rg j (k ⟨rngD i (j - i).toNat, []⟩ M1))
  | _ => False) E
def wiR3 (wa : WA) : WI := fun ρ M k E => wa ρ M (fun xs M1 => match xs with
  | [.int i, .int j, .int c] => Rg3 i j c fun n => k ⟨rngC i c n, []⟩ M1
  | _ => False) E
theorem sdi_r1 {ta : TA} {wa : WA} (ha : SdA K L ta wa) : SdI K L (iRng1 ta) (wiR1 wa) := fun G F H σ ρ M k E R f s l h q =>
  ha G F H σ ρ M _ E _ f s l h fun F1 H1 vs xs M1 h1 e1 f1 i1 => by
    split at h1
    · cases i1 with
      | cons a b =>
        cases a; cases b
        exact ⟨_, rfl, h1.get.1.1, h1.get.1.2, q F1 H1 _ _ M1 h1.get.2 e1 f1 itok_r⟩
    · exact h1.elim
theorem sdi_r2 {ta : TA} {wa : WA} (ha : SdA K L ta wa) : SdI K L (iRng2 ta) (wiR2 wa) := fun G F H σ ρ M k E R f s l h q =>
  ha G F H σ ρ M _ E _ f s l h fun F1 H1 vs xs M1 h1 e1 f1 i1 => by
    split at h1
    · cases i1 with
      | cons a b =>
        cases b with
        | cons b c =>
          cases a; cases b; cases c
          exact ⟨_, _, rfl, ⟨h1.get.1.1, h1.get.1.2, h1.get.2.get.1⟩, q F1 H1 _ _ M1 h1.get.2.get.2 e1 f1 itok_r⟩
    · exact h1.elim
theorem sdi_r3 {ta : TA} {wa : WA} (ha : SdA K L ta wa) : SdI K L (iRng3 ta) (wiR3 wa) := fun G F H σ ρ M k E R f s l h q =>
  ha G F H σ ρ M _ E _ f s l h fun F1 H1 vs xs M1 h1 e1 f1 i1 => by
    split at h1
    · cases i1 with
      | cons a b =>
        cases b with
        | cons b c =>
          cases c with
          | cons c d =>
            cases a; cases b; cases c; cases d
            obtain ⟨n, h2, h3⟩ := h1.get
            exact ⟨_, _, _, n, rfl, h2, q F1 H1 _ _ M1 h3 e1 f1 itok_c⟩
    · exact h1.elim
def zipD : List D → List D → List D
  | x :: xs, y :: ys => .tup [x, y] :: zipD xs ys
  | _, _ => []
theorem zipD_get : ∀ {xs ys : List D} {i : Nat} {z : D}, (zipD xs ys)[i]? = some z → ∃ x y, xs[i]? = some x ∧ ys[i]? = some y ∧ z = .tup [x, y]
  | [], _, _, _, h => by simp [zipD] at h
  | _ :: _, [], _, _, h => by simp [zipD] at h
  | x :: xs, y :: ys, 0, z, h => by simp [zipD] at h; exact ⟨x, y, rfl, rfl, h.symm⟩
  | x :: xs, y :: ys, i + 1, z, h => by simpa using zipD_get (xs := xs) (ys := ys) (i := i) (by simpa [zipD] using h)
theorem zipD_len : ∀ (xs ys : List D), (zipD xs ys).length = min xs.length ys.length
  | [], _ => by simp [zipD]
  | _ :: _, [] => by simp [zipD]
  | x :: xs, y :: ys => by simp [zipD, zipD_len xs ys]
theorem itok_z {a b : Addr} {xs ys : List D} {g1 g2 : List (Addr × List D)} (h : LAt K F a xs g1) (g : LAt K F b ys g2) : ItOk K G F (Itz K a b) ⟨zipD xs ys, g1 ++ g2⟩ where
  go := fun i G1 F1 H1 M hi e f gd => by
    have hi : i < (zipD xs ys).length := hi
    rw [zipD_len] at hi
    obtain ⟨vs, p1, p2⟩ := (h.up e).get f (fun p hp => gd p (List.mem_append_left _ hp))
    obtain ⟨ws, q1, q2⟩ := (g.up e).get f (fun p hp => gd p (List.mem_append_right _ hp))
    exact ⟨vs, ws, vs[i]'(by rw [p2.len]; omega), ws[i]'(by rw [q2.len]; omega), Evl.sq_of p1, Evl.sq_of q1, List.getElem?_eq_getElem _, List.getElem?_eq_getElem _⟩
  stop := fun i G1 F1 H1 M hi e f gd => by
    have hi : (zipD xs ys).length ≤ i := hi
    rw [zipD_len] at hi
    obtain ⟨vs, p1, p2⟩ := (h.up e).get f (fun p hp => gd p (List.mem_append_left _ hp))
    obtain ⟨ws, q1, q2⟩ := (g.up e).get f (fun p hp => gd p (List.mem_append_right _ hp))
    exact ⟨vs, ws, Evl.sq_of p1, Evl.sq_of q1, by rw [p2.len, q2.len]; omega⟩
  yld := fun i G1 F1 H1 M v H2 x hx e f gd ⟨T, x1, y1, r1, r2, r3, r4, r5⟩ => by
    subst r1 r3
    obtain ⟨vs, p1, p2⟩ := (h.up e).get f (fun p hp => gd p (List.mem_append_left _ hp))
    obtain ⟨ws, q1, q2⟩ := (g.up e).get f (fun p hp => gd p (List.mem_append_right _ hp))
    obtain ⟨dx, dy, hx1, hy1, rfl⟩ := zipD_get hx
    obtain ⟨u1, hu1, is1⟩ := p2.get hx1
    obtain ⟨u2, hu2, is2⟩ := q2.get hy1
    rw [r4 vs (Evl.sq_of p1)] at hu1; cases hu1
    rw [r5 ws (Evl.sq_of q1)] at hu2; cases hu2
    exact ⟨_, f.exl r2, f.laid r2, .tup (SqT.of upd_same) (.cons (is1.up (f.exl r2)) (.cons (is2.up (f.exl r2)) .nil))⟩
theorem itok_zT {a b : Addr} {vs ws : List V} {xs ys : List D} (h : SqT K F a vs) (i1 : IsAll K F vs xs) (g : SqT K F b ws) (i2 : IsAll K F ws ys) : ItOk K G F (ItzT K a b) ⟨zipD xs ys, []⟩ where
  go := fun i G1 F1 H1 M hi e f gd => by
    have hi : i < (zipD xs ys).length := hi
    rw [zipD_len] at hi
    exact ⟨vs, ws, vs[i]'(by rw [i1.len]; omega), ws[i]'(by rw [i2.len]; omega), Evl.ex_t (e.trans f.fh) h, Evl.ex_t (e.trans f.fh) g, List.getElem?_eq_getElem _, List.getElem?_eq_getElem _⟩
  stop := fun i G1 F1 H1 M hi e f gd => ⟨vs, ws, Evl.ex_t (e.trans f.fh) h, Evl.ex_t (e.trans f.fh) g, by
    have hi : (zipD xs ys).length ≤ i := hi
    rw [zipD_len] at hi; rw [i1.len, i2.len]; omega⟩
  yld := fun i G1 F1 H1 M v H2 x hx e f gd ⟨T, x1, y1, r1, r2, r3, r4, r5⟩ => by
    subst r1 r3
    obtain ⟨dx, dy, hx1, hy1, rfl⟩ := zipD_get hx
    obtain ⟨u1, hu1, is1⟩ := i1.get hx1
    obtain ⟨u2, hu2, is2⟩ := i2.get hy1
    rw [r4 vs (Evl.ex_t (e.trans f.fh) h)] at hu1; cases hu1
    rw [r5 ws (Evl.ex_t (e.trans f.fh) g)] at hu2; cases hu2
    exact ⟨_, f.exl r2, f.laid r2, .tup (SqT.of upd_same) (.cons (is1.up (e.trans (f.exl r2))) (.cons (is2.up (e.trans (f.exl r2))) .nil))⟩
def wiZip (wa : WA) : WI := fun ρ M k E => wa ρ M (fun xs M1 => match xs with
  | [.tup xs, .tup ys] => k ⟨zipD xs ys, []⟩ M1
  | [x, y] => asL x M1 fun xs g1 => asL y M1 fun ys g2 => k ⟨zipD xs ys, g1 ++ g2⟩ M1
  | _ => False) E
theorem sdi_zip {ta : TA} {wa : WA} (ha : SdA K L ta wa) : SdI K L (iZipA K ta) (wiZip wa) := fun G F H σ ρ M k E R f s l h q =>
  ha G F H σ ρ M _ E _ f s l h fun F1 H1 vs xs M1 h1 e1 f1 i1 => by
    split at h1
    · cases i1 with
      | cons a b =>
        cases b with
        | cons b c =>
          cases c
          cases a with
          | tup a1 a2 =>
            cases b with
            | tup b1 b2 => exact ⟨_, _, _, _, rfl, .inr ⟨Evl.ex_t f1.fh a1, Evl.ex_t f1.fh b1, q F1 H1 _ _ M1 h1 e1 f1 (itok_zT a1 a2 b1 b2)⟩⟩
    · cases i1 with
      | cons a b =>
        cases b with
        | cons b c =>
          cases c
          obtain ⟨a', xs, g1, rfl, la, gd1, h2⟩ := asL_ok f1 a h1
          obtain ⟨b', ys, g2, rfl, lb, gd2, h3⟩ := asL_ok f1 b h2
          obtain ⟨vs, p1, p2⟩ := la.get f1 gd1
          obtain ⟨ws, q1, q2⟩ := lb.get f1 gd2
          exact ⟨_, _, _, _, rfl, .inl ⟨Evl.sq_of p1, Evl.sq_of q1, q F1 H1 _ _ M1 h3 e1 f1 (itok_z la lb)⟩⟩
    · exact h1.elim
def enumD (n : Nat) : List D → List D
  | [] => []
  | x :: xs => .tup [.int n, x] :: enumD (n + 1) xs
theorem enumD_get : ∀ {xs : List D} {n i : Nat} {z : D}, (enumD n xs)[i]? = some z → ∃ x, xs[i]? = some x ∧ z = .tup [.int ((n + i : Nat) : Int), x]
  | [], _, _, _, h => by simp [enumD] at h
  | x :: xs, n, 0, z, h => by simp [enumD] at h; exact ⟨x, rfl, h.symm⟩
  | x :: xs, n, i + 1, z, h => by
    obtain ⟨y, e1, e2⟩ := enumD_get (xs := xs) (n := n + 1) (i := i) (by simpa [enumD] using h)
    exact ⟨y, by simpa using e1, by rw [e2, show n + 1 + i = n + (i + 1) by omega]⟩
theorem enumD_len : ∀ (xs : List D) (n : Nat), (enumD n xs).length = xs.length
  | [], _ => rfl
  | x :: xs, n => by simp [enumD, enumD_len xs]
theorem itok_e {a : Addr} {xs : List D} {gd : List (Addr × List D)} (h : LAt K F a xs gd) : ItOk K G F (Ite K a) ⟨enumD 0 xs, gd⟩ where
  go := fun i G1 F1 H1 M hi e f g => by
    have hi : i < (enumD 0 xs).length := hi
    rw [enumD_len] at hi
    obtain ⟨vs, h1, h2⟩ := (h.up e).get f g
    exact ⟨vs, vs[i]'(by rw [h2.len]; omega), Evl.sq_of h1, List.getElem?_eq_getElem _⟩
  stop := fun i G1 F1 H1 M hi e f g => by
    have hi : (enumD 0 xs).length ≤ i := hi
    rw [enumD_len] at hi
    obtain ⟨vs, h1, h2⟩ := (h.up e).get f g
    exact ⟨vs, Evl.sq_of h1, by rw [h2.len]; omega⟩
  yld := fun i G1 F1 H1 M v H2 x hx e f g ⟨T, x1, r1, r2, r3, r4⟩ => by
    subst r1 r3
    obtain ⟨vs, h1, h2⟩ := (h.up e).get f g
    obtain ⟨dx, hx1, rfl⟩ := enumD_get hx
    obtain ⟨u1, hu1, is1⟩ := h2.get hx1
    rw [r4 vs (Evl.sq_of h1)] at hu1; cases hu1
    rw [Nat.zero_add]
    exact ⟨_, f.exl r2, f.laid r2, .tup (SqT.of upd_same) (.cons (.int _) (.cons (is1.up (f.exl r2)) .nil))⟩
def wiEnum (wa : WA) : WI := fun ρ M k E => wa ρ M (fun xs M1 => match xs with
  | [x] => asL x M1 fun xs gd => k ⟨enumD 0 xs, gd⟩ M1
  | _ => False) E
theorem sdi_enum {ta : TA} {wa : WA} (ha : SdA K L ta wa) : SdI K L (iEnum K ta) (wiEnum wa) := fun G F H σ ρ M k E R f s l h q =>
  ha G F H σ ρ M _ E _ f s l h fun F1 H1 vs xs M1 h1 e1 f1 i1 => by
    split at h1
    · cases i1 with
      | cons a b =>
        cases b
        obtain ⟨a', xs, g1, rfl, la, gd1, h2⟩ := asL_ok f1 a h1
        obtain ⟨vs, p1, p2⟩ := la.get f1 gd1
        exact ⟨_, _, rfl, Evl.sq_of p1, q F1 H1 _ _ M1 h2 e1 f1 (itok_e la)⟩
    · exact h1.elim
/-! ### loops -/
def loopS (gd : List (Addr × List D)) (tg : WG) (body : WS) (ks : List Nat) (P : Ps) (E : XP) : List D → St' → Mem → Prop
  | [], ρ, M => Gd gd M (P.nx ρ M)
  | x :: xs, ρ, M => Gd gd M (tg x ρ M (fun ρ2 M2 => body ρ2 M2 { nx := fun ρ3 M3 => loopS gd tg body ks P E xs (wipe' ρ3 ks) M3, rt := P.rt, bk := fun ρ3 M3 => P.nx (wipe' ρ3 ks) M3, ct := fun ρ3 M3 => loopS gd tg body ks P E xs (wipe' ρ3 ks) M3 } E) E)
def wFor (wi : WI) (tg : WG) (body : WS) (ks : List Nat) : WS := fun ρ M P E => wi ρ M (fun J M1 => loopS J.gd tg body ks P E J.xs (wipe' ρ ks) M1) E
theorem sds_for {wi : TI} {wj : WI} {g : TG} {wg : WG} {tb : TS} {wb : WS} {ks : List Nat} (hi : SdI K L wi wj) (hg : SdG K L g wg) (hb : SdS K L tb wb) : SdS K L (tFor wi g tb) (wFor wj wg wb ks) := fun G F H σ ρ M P E D f s l h a b c d =>
  hi G F H σ ρ M _ E _ f s l h fun F0 H0 J I M0 h0 e0 f0 it => by
    refine ⟨fun i m σ H => m = I.xs.length - i ∧ i ≤ I.xs.length ∧ ∃ F ρ M, Ex F0 F ∧ Fr K G F H M ∧ Sto K F σ ρ ∧ loopS I.gd wg wb ks P E (I.xs.drop i) ρ M, ⟨_, rfl, Nat.zero_le _, F0, _, M0, Ex.refl F0, f0, (s.up e0).kills ks, h0⟩, fun i m σ1 H1 hW => ?_⟩
    obtain ⟨rfl, hi, F1, ρ1, M1, e1, f1, s1, hl⟩ := hW
    by_cases e : i = I.xs.length
    · subst e
      rw [List.drop_length] at hl
      obtain ⟨g1, h1⟩ := Gd.get (show Gd I.gd M1 (P.nx ρ1 M1) from hl)
      exact .inl ⟨it.stop _ G F1 H1 M1 (Nat.le_refl _) e1 f1 g1, a F1 H1 σ1 ρ1 M1 h1 (e0.trans e1) f1 s1⟩
    · have hlt : i < I.xs.length := by omega
      rw [List.drop_eq_getElem_cons hlt] at hl
      obtain ⟨g1, h1⟩ := Gd.get (show Gd I.gd M1 (wg (I.xs[i]'hlt) ρ1 M1 _ E) from hl)
      refine .inr ⟨it.go i G F1 H1 M1 hlt e1 f1 g1, fun σ H => ∃ F ρ M, Ex F0 F ∧ Fr K G F H M ∧ Sto K F σ ρ ∧ loopS I.gd wg wb ks P E (I.xs.drop (i + 1)) ρ M, fun σ' H' hN => ⟨_, by omega, rfl, hlt, hN⟩, fun v H2 hy => ?_⟩
      obtain ⟨F2, e2, f2, is⟩ := it.yld i G F1 H1 M1 v H2 (I.xs[i]'hlt) (List.getElem?_eq_getElem hlt) e1 f1 g1 hy
      have e02 := e0.trans (e1.trans e2)
      refine hg G F2 H2 σ1 ρ1 M1 v _ _ E _ f2 (s1.up e2) (L.mono l e02) is h1 fun F3 H3 σ3 ρ3 M3 h3 e3 f3 s3 => ?_
      have e03 := e02.trans e3
      exact hb G F3 H3 σ3 ρ3 M3 _ E _ f3 s3 (L.mono l e03) h3 (fun F' H' σ' ρ' M' q u f' s' => ⟨F', _, M', (e1.trans e2).trans (e3.trans u), f', s'.kills ks, q⟩) (b.up e03) (fun F' H' σ' ρ' M' q u f' s' => a F' H' σ' _ M' q (e03.trans u) f' (s'.kills ks))
        (fun F' H' σ' ρ' M' q u f' s' => ⟨F', _, M', (e1.trans e2).trans (e3.trans u), f', s'.kills ks, q⟩)
def whileN (c : WT) (body : WS) (ks : List Nat) (P : Ps) (E : XP) : Nat → St' → Mem → Prop
  | 0, _, _ => False
  | n + 1, ρ, M => c ρ M (fun b M1 => Br b (body ρ M1 { nx := fun ρ3 M3 => whileN c body ks P E n (wipe' ρ3 ks) M3, rt := P.rt, bk := fun ρ3 M3 => P.nx (wipe' ρ3 ks) M3, ct := fun ρ3 M3 => whileN c body ks P E n (wipe' ρ3 ks) M3 } E) (P.nx ρ M1)) E
def wWhile (c : WT) (body : WS) (ks : List Nat) : WS := fun ρ M P E => ∃ n, whileN c body ks P E n (wipe' ρ ks) M
theorem sds_while {tc : TT} {wc : WT} {tb : TS} {wb : WS} {ks : List Nat} (hc : SdT K L tc wc) (hb : SdS K L tb wb) : SdS K L (tWhile tc tb) (wWhile wc wb ks) := fun G F H σ ρ M P E D f s l h a b c d => by
  obtain ⟨n, h⟩ := h
  refine ⟨fun m σ H => ∃ F1 ρ M, Ex F F1 ∧ Fr K G F1 H M ∧ Sto K F1 σ ρ ∧ whileN wc wb ks P E m ρ M, ⟨n, F, _, M, Ex.refl F, f, s.kills ks, h⟩, fun m σ1 H1 hW => ?_⟩
  obtain ⟨F1, ρ1, M1, e1, f1, s1, hl⟩ := hW
  cases m with
  | zero => exact hl.elim
  | succ m =>
    refine hc G F1 H1 σ1 ρ1 M1 _ E _ f1 s1 (L.mono l e1) hl fun F2 H2 bb M2 h2 e2 f2 => ?_
    have e02 := e1.trans e2
    exact h2.ite (fun h3 => ⟨fun σ H => ∃ F1 ρ M, Ex F F1 ∧ Fr K G F1 H M ∧ Sto K F1 σ ρ ∧ whileN wc wb ks P E m ρ M, fun σ' H' hN => ⟨m, Nat.lt_succ_self m, hN⟩,
        hb G F2 H2 σ1 ρ1 M2 _ E _ f2 (s1.up e2) (L.mono l e02) h3 (fun F' H' σ' ρ' M' q u f' s' => ⟨F', _, M', e02.trans u, f', s'.kills ks, q⟩) (b.up e02) (fun F' H' σ' ρ' M' q u f' s' => a F' H' σ' _ M' q (e02.trans u) f' (s'.kills ks))
          (fun F' H' σ' ρ' M' q u f' s' => ⟨F', _, M', e02.trans u, f', s'.kills ks, q⟩)⟩)
      fun h3 => a F2 H2 σ1 ρ1 M2 h3 e02 f2 (s1.up e2)
end
end Px

set_option Elab.async false
set_option linter.all false
set_option maxRecDepth 100000
set_option maxHeartbeats 4000000
/-! Comprehensions, fields, calls, promises from bodies. -/
namespace Px
open PySem PySem.Spec PyProof.Rows L2 Rl RZ RT
open Evl (Ex)
/-! ### targets that set own slots alone -/
def GIn (g : TG) (vs : List Nat) : Prop := ∀ x σ H Q, g x σ H Q → g x σ H fun σ2 H2 => L2.wipe σ2 vs = L2.wipe σ vs ∧ Q σ2 H2
def GIns (g : TGs) (vs : List Nat) : Prop := ∀ xs σ H Q, g xs σ H Q → g xs σ H fun σ2 H2 => L2.wipe σ2 vs = L2.wipe σ vs ∧ Q σ2 H2
theorem wipe_set {x : Option V} {i : Nat} (σ : L2.St) : ∀ (vs : List Nat), i ∈ vs → L2.wipe (σ.set i x) vs = L2.wipe σ vs
  | [], h => by cases h
  | v :: vs, h => by
    show (L2.wipe (σ.set i x) vs).set v none = (L2.wipe σ vs).set v none
    by_cases hm : i ∈ vs
    · rw [wipe_set σ vs hm]
    · have e : i = v := by
        rcases List.mem_cons.mp h with h | h
        · exact h
        · exact absurd h hm
      subst e
      have key : ∀ (ws : List Nat), i ∉ ws → L2.wipe (σ.set i x) ws = (L2.wipe σ ws).set i x := fun ws => by
        induction ws with
        | nil => intro _; rfl
        | cons w ws ih =>
          intro hn
          show (L2.wipe (σ.set i x) ws).set w none = ((L2.wipe σ ws).set w none).set i x
          rw [ih (fun q => hn (List.mem_cons_of_mem _ q)), List.set_comm]
          intro e; subst e; exact hn (by simp)
      rw [key vs hm, List.set_set]
theorem gin_name {i : Nat} {vs : List Nat} (h : vs.contains i = true) : GIn (gName i) vs := fun x σ H Q q => ⟨wipe_set σ vs (List.contains_iff_mem.mp h), q⟩
theorem gin_nil {vs : List Nat} : GIns gNil vs := fun xs σ H Q ⟨e, q⟩ => ⟨e, rfl, q⟩
class GMono (g : TG) : Prop where
  mono : ∀ x σ H (Q Q' : L2.St → Hp → Prop), (∀ σ H, Q σ H → Q' σ H) → g x σ H Q → g x σ H Q'
class GsMono (g : TGs) : Prop where
  mono : ∀ x σ H (Q Q' : L2.St → Hp → Prop), (∀ σ H, Q σ H → Q' σ H) → g x σ H Q → g x σ H Q'
instance {i : Nat} : GMono (gName i) := ⟨fun x σ H Q Q' h q => h _ _ q⟩
instance : GsMono gNil := ⟨fun x σ H Q Q' h ⟨e, q⟩ => ⟨e, h _ _ q⟩⟩
instance {g : TG} {gs : TGs} [a : GMono g] [b : GsMono gs] : GsMono (gCons g gs) := ⟨fun x σ H Q Q' h ⟨v, r, e, q⟩ => ⟨v, r, e, a.mono _ _ _ _ _ (fun σ H q => b.mono _ _ _ _ _ h q) q⟩⟩
instance {K : Frag} {n : Nat} {gs : TGs} [b : GsMono gs] : GMono (gTup K n gs) := ⟨fun x σ H Q Q' h ⟨a, xs, e1, e2, e3, q⟩ => ⟨a, xs, e1, e2, e3, b.mono _ _ _ _ _ h q⟩⟩
theorem gin_cons {g : TG} {gs : TGs} {vs : List Nat} [GMono g] [GsMono gs] (h : GIn g vs) (hs : GIns gs vs) : GIns (gCons g gs) vs := fun xs σ H Q ⟨v, r, e, q⟩ => ⟨v, r, e, GMono.mono _ _ _ _ _ (fun σ1 H1 ⟨e1, q1⟩ => GsMono.mono _ _ _ _ _ (fun σ2 H2 ⟨e2, q2⟩ => ⟨by rw [e2, e1], q2⟩) (hs _ _ _ _ q1)) (h _ _ _ _ q)⟩
theorem gin_tup {K : Frag} {n : Nat} {gs : TGs} {vs : List Nat} (h : GIns gs vs) : GIn (gTup K n gs) vs := fun x σ H Q ⟨a, xs, e1, e2, e3, q⟩ => ⟨a, xs, e1, e2, e3, h _ _ _ _ q⟩
theorem wipe_wipe (σ : L2.St) : ∀ (vs : List Nat), L2.wipe (L2.wipe σ vs) vs = L2.wipe σ vs := fun vs => by
  have key : ∀ (ws us : List Nat), (∀ u ∈ us, u ∈ ws) → L2.wipe (L2.wipe σ us) ws = L2.wipe σ ws := fun ws us => by
    induction us with
    | nil => intro _; rfl
    | cons u us ih =>
      intro h
      show L2.wipe ((L2.wipe σ us).set u none) ws = _
      rw [wipe_set _ ws (h u (by simp)), ih fun v hv => h v (List.mem_cons_of_mem _ hv)]
  exact key vs vs fun _ h => h
section
variable {K : Frag} {L : XL} {G F F' H : Hp} {M : Mem}
/-- an object that must stay -/
theorem Fr.guard (f : Fr K G F H M) {A : Addr} {o : HO} (h : H A = some o) (n : F A = none) (m : M A = none) : Fr K (upd G A o) F H M where
  gh := fun a u e => by
    by_cases ea : a = A
    · subst ea; rw [upd_same] at e; cases e; exact h
    · rw [upd_ne ea] at e; exact f.gh a u e
  fh := f.fh
  gf := fun a u e => by
    by_cases ea : a = A
    · subst ea; exact n
    · rw [upd_ne ea] at e; exact f.gf a u e
  gm := fun a u e => by
    by_cases ea : a = A
    · subst ea; exact m
    · rw [upd_ne ea] at e; exact f.gm a u e
  mc := f.mc
theorem Fr.unguard {A : Addr} {o : HO} (f : Fr K (upd G A o) F H M) (g : G A = none) : Fr K G F H M :=
  have k : ∀ {a u}, G a = some u → upd G A o a = some u := fun {a u} e => by rw [upd_ne (ne_of_none e g)]; exact e
  ⟨fun a u e => f.gh a u (k e), f.fh, fun a u e => f.gf a u (k e), fun a u e => f.gm a u (k e), f.mc⟩
/-- an object that nobody knows is changed -/
theorem Fr.other (f : Fr K G F H M) {A : Addr} {o : HO} (n : F A = none) (g : G A = none) (m : M A = none) : Fr K G F (upd H A o) M where
  gh := fun a u e => by rw [upd_ne (ne_of_none e g)]; exact f.gh a u e
  fh := fun a u e => by rw [upd_ne (ne_of_none e n)]; exact f.fh a u e
  gf := f.gf
  gm := f.gm
  mc := fun a c e => by
    have ea : a ≠ A := fun q => by subst q; rw [m] at e; cases e
    obtain ⟨h1, h2⟩ := f.mc a c e
    exact ⟨h1, h2.mono (Ex.refl F) fun u q => by rw [upd_ne ea]; exact q⟩
theorem Fr.take (f : Fr K G F H M) {A : Addr} {o : HO} (h : H A = some o) (n : F A = none) (g : G A = none) (m : M A = none) : Fr K G (upd F A o) H M where
  gh := f.gh
  fh := fun a u e => by
    by_cases ea : a = A
    · subst ea; rw [upd_same] at e; cases e; exact h
    · rw [upd_ne ea] at e; exact f.fh a u e
  gf := fun a u e => by rw [upd_ne (ne_of_none e g)]; exact f.gf a u e
  gm := f.gm
  mc := fun a c e => by
    have ea : a ≠ A := fun q => by subst q; rw [m] at e; cases e
    obtain ⟨h1, h2⟩ := f.mc a c e
    exact ⟨by rw [upd_ne ea]; exact h1, h2.mono (Ex.new n) fun _ q => q⟩
theorem Fr.hold (f : Fr K G F H M) {A : Addr} {c : Cell} (n : F A = none) (g : G A = none) (a : At K F H A c) : Fr K G F H (mu M A c) where
  gh := f.gh
  fh := f.fh
  gf := f.gf
  gm := fun b u e => by rw [mu_ne (ne_of_none e g)]; exact f.gm b u e
  mc := fun b d e => by
    by_cases eb : b = A
    · subst eb; rw [mu_same] at e; cases e; exact ⟨n, a⟩
    · rw [mu_ne eb] at e; exact f.mc b d e
/-! ### comprehensions -/
def loopC (gd : List (Addr × List D)) (wg : WG) (wt : WT) (we : W) (ρw : St') (k : List D → Mem → Prop) : List D → List D → Mem → Prop
  | [], acc, M => Gd gd M (k acc M)
  | x :: xs, acc, M => Gd gd M (wg x ρw M (fun ρ2 M2 => wt ρ2 M2 (fun b M3 => Br b (we ρ2 M3 (fun y M4 => Sz (acc.length + 1) (loopC gd wg wt we ρw k xs (acc ++ [y]) M4)) noX) (loopC gd wg wt we ρw k xs acc M3)) noX) noX)
def wLc (m : Bool) (wi : WI) (wg : WG) (wt : WT) (we : W) (us : List Nat) : W := fun ρ M k E => wi ρ M (fun J M1 => loopC J.gd wg wt we (wipe' ρ us) (fun acc M2 => mkL m acc M2 k) J.xs [] M1) E
def wYes : WT := fun _ M k _ => k true M
theorem sdt_yes : SdT K L tYes wYes := fun G F H σ ρ M k E Q f s l h q => q F H true M h (Ex.refl F) f
theorem sd_lc {m : Bool} {wi : TI} {wj : WI} {g : TG} [GMono g] {wg : WG} {tt : TT} {wt : WT} {te : TE} {we : W} {us : List Nat} (hgi : GIn g us) (hi : SdI K L wi wj) (hg : SdG K L g wg) (ht : SdT K L tt wt) (he : Sd K L te we) : Sd K L (tLc wi g tt te us) (wLc m wj wg wt we us) := fun G F H σ ρ M k E Q f s l h q =>
  hi G F H σ ρ M _ E _ f s l h fun F0 H0 J I M0 h0 e0 f0 it A hA => by
    have gA : G A = none := Evl.fresh_back f0.gh hA
    have fA : F0 A = none := Evl.fresh_back f0.fh hA
    have fb := f0.more (o := .lst []) hA
    have sw := (s.up e0).wipe us
    refine ⟨fun i m' H => m' = I.xs.length - i ∧ i ≤ I.xs.length ∧ ∃ F M acc accv, Ex F0 F ∧ Fr K G F H M ∧ F A = none ∧ M A = none ∧ H A = some (.lst accv) ∧ IsAll K F accv acc ∧ loopC I.gd wg wt we (wipe' ρ us) (fun acc M2 => mkL m acc M2 k) (I.xs.drop i) acc M,
      ⟨_, rfl, Nat.zero_le _, F0, M0, [], [], Ex.refl F0, fb, fA, f0.mh hA, upd_same, .nil, h0⟩, fun i m' H1 hW => ?_⟩
    obtain ⟨rfl, hi, F1, M1, acc, accv, e1, f1, a1, a2, a3, a4, hl⟩ := hW
    by_cases e : i = I.xs.length
    · subst e
      rw [List.drop_length] at hl
      obtain ⟨g1, h1⟩ := Gd.get (show Gd I.gd M1 (mkL m acc M1 k) from hl)
      refine .inl ⟨it.stop _ G F1 H1 M1 (Nat.le_refl _) e1 f1 g1, ?_⟩
      cases m with
      | false => exact q _ H1 (.ref A) _ M1 h1 ((e0.trans e1).trans (Ex.new a1)) (f1.take a3 a1 gA a2) (.lst upd_same (a4.up (Ex.new a1)))
      | true => exact q F1 H1 (.ref A) _ _ (h1 A a2) (e0.trans e1) (f1.hold a1 gA ⟨accv, a3, a4⟩) (.ref A)
    · have hlt : i < I.xs.length := by omega
      rw [List.drop_eq_getElem_cons hlt] at hl
      obtain ⟨g1, h1⟩ := Gd.get (show Gd I.gd M1 (wg (I.xs[i]'hlt) (wipe' ρ us) M1 _ noX) from hl)
      refine .inr ⟨it.go i G F1 H1 M1 hlt e1 f1 g1, fun H => ∃ F M acc accv, Ex F0 F ∧ Fr K G F H M ∧ F A = none ∧ M A = none ∧ H A = some (.lst accv) ∧ IsAll K F accv acc ∧ loopC I.gd wg wt we (wipe' ρ us) (fun acc M2 => mkL m acc M2 k) (I.xs.drop (i + 1)) acc M, fun H' hN => ⟨_, by omega, rfl, hlt, hN⟩, fun v H2 hy => ?_⟩
      obtain ⟨F2, e2, f2, is⟩ := it.yld i _ F1 H1 M1 v H2 (I.xs[i]'hlt) (List.getElem?_eq_getElem hlt) e1 (f1.guard a3 a1 a2) g1 hy
      have gA2 : upd G A (.lst accv) A = some (.lst accv) := upd_same
      refine GMono.mono _ _ _ _ _ (fun σ2 H3 ⟨e3, q1⟩ => ?mm) (hgi _ _ _ _ (hg _ F2 H2 (L2.wipe σ us) (wipe' ρ us) M1 v _ _ noX (fun σ2 H2 => L2.wipe σ2 us = L2.wipe σ us → tt σ2 H2 fun b H3 =>
        if b = true then te σ2 H3 fun y H4 => ∃ acc, H4 A = some (.lst acc) ∧ acc.length < sizeLine ∧ ∃ F M acc2 accv, Ex F0 F ∧ Fr K G F (upd H4 A (.lst (acc ++ [y]))) M ∧ F A = none ∧ M A = none ∧ (upd H4 A (.lst (acc ++ [y]))) A = some (.lst accv) ∧ IsAll K F accv acc2 ∧ loopC I.gd wg wt we (wipe' ρ us) (fun acc M2 => mkL m acc M2 k) (I.xs.drop (i + 1)) acc2 M
        else ∃ F M acc accv, Ex F0 F ∧ Fr K G F H3 M ∧ F A = none ∧ M A = none ∧ H3 A = some (.lst accv) ∧ IsAll K F accv acc ∧ loopC I.gd wg wt we (wipe' ρ us) (fun acc M2 => mkL m acc M2 k) (I.xs.drop (i + 1)) acc M) f2 (sw.up (e1.trans e2)) L.no is h1 fun F3 H3 σ3 ρ3 M3 h3 e3 f3 s3 ew => ?kk))
      case mm =>
        rw [wipe_wipe] at e3
        exact ⟨e3, q1 e3⟩
      case kk =>
        refine ht _ F3 H3 σ3 ρ3 M3 _ noX _ f3 s3 L.no h3 fun F4 H4 b M4 h4 e4 f4 => h4.ite (fun h5 => ?_) (fun h5 => ?_)
        · refine he _ F4 H4 σ3 ρ3 M4 _ noX _ f4 (s3.up e4) L.no h5 fun F5 H5 y x M5 h6 e5 f5 i5 => ?_
          have e15 := ((e2.trans e3).trans e4).trans e5
          have fA5 := f5.gf A _ gA2
          have mA5 := f5.gm A _ gA2
          refine ⟨accv, f5.gh A _ gA2, by rw [a4.len]; exact h6.get.1, F5, M5, acc ++ [x], accv ++ [y], e1.trans e15, (f5.unguard gA).other fA5 gA mA5, fA5, mA5, upd_same, (a4.up e15).app (.cons i5 .nil), h6.get.2⟩
        · have e14 := (e2.trans e3).trans e4
          exact ⟨F4, M4, acc, accv, e1.trans e14, f4.unguard gA, f4.gf A _ gA2, f4.gm A _ gA2, f4.gh A _ gA2, a4.up e14, h5⟩
/-! ### instances -/
def asI : D → Mem → (Str → List Str → List D → Prop) → Prop
  | .ins c ns xs, _, k => k c ns xs
  | .ref a, M, k => cellI a M k
  | _, _, _ => False
theorem asI_ok {x : D} {v : V} {k : Str → List Str → List D → Prop} (f : Fr K G F H M) (i : Is K F v x) (h : asI x M k) : ∃ a c ns xs dx fs, v = .ref a ∧ H a = some (.ins (He.ga K c) dx fs) ∧ CF K c ns ∧ fs.map (·.1) = ns ∧ IsAll K F (fs.map (·.2)) xs ∧ k c ns xs := by
  cases i with
  | ins h1 h0 h2 h3 => exact ⟨_, _, _, _, _, _, rfl, f.fh _ _ h1, h0, h2, h3, h⟩
  | ref a =>
    obtain ⟨c, ns, xs, e, hk⟩ := cellI.get h
    obtain ⟨_, dx, fs, q0, q1, q2, q3⟩ := f.mc a _ e
    exact ⟨a, c, ns, xs, dx, fs, rfl, q0, q1, q2, q3, hk⟩
  | _ => cases h
def fget : List Str → List D → Str → Option D
  | n :: ns, x :: xs, f => if f = n then some x else fget ns xs f
  | _, _, _ => none
theorem lookup_fs {f : Str} : ∀ {fs : List (Str × V)} {ns : List Str} {xs : List D} {x : D}, fs.map (·.1) = ns → IsAll K F (fs.map (·.2)) xs → fget ns xs f = some x → ∃ v, fs.lookup f = some v ∧ Is K F v x ∧ f ∈ ns
  | [], _, _, _, e, h, g => by subst e; simp [fget] at g
  | (n, v) :: fs, _, xs, x, e, h, g => by
    subst e
    cases xs with
    | nil => simp [fget] at g
    | cons y ys =>
      cases h with
      | cons h1 h2 =>
        have g2 : (if f = n then some y else fget (fs.map (·.1)) ys f) = some x := g
        by_cases c : f = n
        · rw [if_pos c] at g2
          cases g2
          exact ⟨v, by subst c; simp [List.lookup], h1, by subst c; simp⟩
        · rw [if_neg c] at g2
          obtain ⟨w, q1, q2, q3⟩ := lookup_fs (fs := fs) rfl h2 g2
          refine ⟨w, ?_, q2, List.mem_cons_of_mem _ q3⟩
          have c2 : (f == n) = false := by simpa using c
          simp only [List.lookup, c2]
          exact q1
theorem lookup_none {f : Str} : ∀ {fs : List (Str × V)} {ns : List Str}, fs.map (·.1) = ns → ns.contains f = false → fs.lookup f = none
  | [], _, _, _ => rfl
  | (n, v) :: fs, _, e, h => by
    subst e
    rw [List.map_cons, List.contains_cons, Bool.or_eq_false_iff] at h
    simp only [List.lookup, h.1]
    exact lookup_none rfl h.2
@[irreducible] def fldD (ns : List Str) (xs : List D) (f : Str) (k : D → Prop) : Prop := ∃ y, fget ns xs f = some y ∧ k y
theorem fldD.get {ns : List Str} {xs : List D} {f : Str} {k : D → Prop} (h : fldD ns xs f k) : ∃ y, fget ns xs f = some y ∧ k y := by unfold fldD at h; exact h
theorem fld {ns : List Str} {xs : List D} {f : Str} {k : D → Prop} {y : D} (e : fget ns xs f = some y) (h : k y) : fldD ns xs f k := by unfold fldD; exact ⟨y, e, h⟩
def wFld (f : Str) (we : W) : W := fun ρ M k E => we ρ M (fun x M1 => asI x M1 fun _ ns xs => fldD ns xs f fun y => k y M1) E
theorem sd_fld {te : TE} {we : W} {f : Str} (ha : Sd K L te we) : Sd K L (tFld K te f) (wFld f we) := fun G F H σ ρ M k E Q fr s l h q =>
  ha G F H σ ρ M _ E _ fr s l h fun F1 H1 v x M1 h1 e1 f1 i1 => by
    obtain ⟨a, c, ns, xs, dx, fs, rfl, q1, cf, q2, q3, hf⟩ := asI_ok f1 i1 h1
    obtain ⟨y, h2, h3⟩ := hf.get
    obtain ⟨u, lk, is, mem⟩ := lookup_fs q2 q3 h2
    exact ⟨a, _, dx, fs, u, rfl, q1, cf.cl, cf.na f mem, lk, q F1 H1 u y M1 h3 e1 f1 is⟩
/-- o.f = e: a new attribute, or one that is there -/
def fput : List Str → List D → Str → D → List Str × List D
  | n :: ns, y :: ys, f, x => if n = f then (n :: ns, x :: ys) else let r := fput ns ys f x; (n :: r.1, y :: r.2)
  | _, _, f, x => ([f], [x])
theorem putF_is {f : Str} {y : V} {x : D} : ∀ {fs : List (Str × V)} {ns : List Str} {xs : List D}, fs.map (·.1) = ns → IsAll K F (fs.map (·.2)) xs → Is K F y x → (putF f y fs).map (·.1) = (fput ns xs f x).1 ∧ IsAll K F ((putF f y fs).map (·.2)) (fput ns xs f x).2 ∧ ∀ g ∈ (fput ns xs f x).1, g = f ∨ g ∈ ns
  | [], _, _, e, h, g => by
    subst e
    cases h
    exact ⟨rfl, .cons g .nil, fun g hg => .inl (by simpa [fput] using hg)⟩
  | (n, v) :: fs, _, _, e, h, g => by
    subst e
    cases h with
    | cons h1 h2 =>
      simp only [putF, fput, List.map_cons]
      by_cases en : n = f
      · rw [if_pos en, if_pos en]; exact ⟨rfl, .cons g h2, fun g hg => .inr hg⟩
      · rw [if_neg en, if_neg en]
        obtain ⟨a, b, c⟩ := putF_is (f := f) (y := y) (x := x) (fs := fs) rfl h2 g
        refine ⟨by rw [List.map_cons, a], .cons h1 b, fun g hg => ?_⟩
        rcases List.mem_cons.mp hg with q | q
        · exact .inr (by rw [q]; simp)
        · rcases c g q with r | r
          · exact .inl r
          · exact .inr (List.mem_cons_of_mem _ r)
@[irreducible] def attD (cs : List Str) (o : D) (f : Str) (y : D) (M : Mem) (k : Mem → Prop) : Prop := ∃ a c ns xs, o = .ref a ∧ M a = some (.ins c ns xs) ∧ c ∈ cs ∧ ns.length < 1000 ∧ k (mu M a (.ins c (fput ns xs f y).1 (fput ns xs f y).2))
theorem attD.get {cs : List Str} {o : D} {f : Str} {y : D} {M : Mem} {k : Mem → Prop} (h : attD cs o f y M k) : ∃ a c ns xs, o = .ref a ∧ M a = some (.ins c ns xs) ∧ c ∈ cs ∧ ns.length < 1000 ∧ k (mu M a (.ins c (fput ns xs f y).1 (fput ns xs f y).2)) := by unfold attD at h; exact h
theorem att_mu {cs : List Str} {a : Addr} {c f : Str} {y : D} {M : Mem} {ns ns' : List Str} {xs xs' : List D} {k : Mem → Prop} (e : fput ns xs f y = (ns', xs')) (hc : c ∈ cs) (hn : ns.length < 1000) (h : k (mu M a (.ins c ns' xs'))) : attD cs (.ref a) f y (mu M a (.ins c ns xs)) k := by
  unfold attD
  refine ⟨a, c, ns, xs, rfl, mu_same, hc, hn, ?_⟩
  rw [mu_mu, e]
  exact h
theorem att_of {cs : List Str} {a : Addr} {c f : Str} {y : D} {M : Mem} {ns ns' : List Str} {xs xs' : List D} {k : Mem → Prop} (e0 : M a = some (.ins c ns xs)) (e : fput ns xs f y = (ns', xs')) (hc : c ∈ cs) (hn : ns.length < 1000) (h : k (mu M a (.ins c ns' xs'))) : attD cs (.ref a) f y M k := by
  unfold attD
  refine ⟨a, c, ns, xs, rfl, e0, hc, hn, ?_⟩
  rw [e]
  exact h
def wSetF (cs : List Str) (f : Str) (wo we : W) : WS := fun ρ M P E => we ρ M (fun y M1 => wo ρ M1 (fun o M2 => attD cs o f y M2 fun M3 => P.nx ρ M3) E) E
theorem sds_fld {to te : TE} {wo we : W} {cs : List Str} {f : Str} (hn : ∀ c ∈ cs, NoAttr K (He.ga K c) f) (ho : Sd K L to wo) (he : Sd K L te we) : SdS K L (sFld K to te f) (wSetF cs f wo we) := fun G F H σ ρ M P E D fr s l h a b c d =>
  he G F H σ ρ M _ E _ fr s l h fun F1 H1 u y M1 h1 e1 f1 i1 => ho G F1 H1 σ ρ M1 _ E _ f1 (s.up e1) (L.mono l e1) h1 fun F2 H2 v o M2 h2 e2 f2 i2 => by
    obtain ⟨p, cc, ns, xs, rfl, q1, q2, q3, q4⟩ := h2.get
    cases i2
    obtain ⟨_, dx, fs, r1, r2, r3, r4⟩ := f2.mc p _ q1
    have pf := putF_is (f := f) r3 r4 (i1.up e2)
    refine ⟨p, _, dx, fs, rfl, r1, r2.cl, hn _ q2, ?_, ?_⟩
    · have : fs.length = ns.length := by rw [← r3]; simp
      omega
    · refine a F2 _ σ ρ _ q4 (e1.trans e2) (f2.chg q1 ⟨dx, _, upd_same, ⟨r2.cl, r2.ty, fun g hg => ?_⟩, pf.1, pf.2.1⟩) (s.up (e1.trans e2))
      rcases pf.2.2 g hg with z | z
      · rw [z]; exact hn _ q2
      · exact r2.na g z
/-! ### calls -/
abbrev WC := St' → Mem → (List D → List D → Mem → Prop) → XP → Prop
abbrev WF := List D → Mem → (D → Mem → Prop) → XP → Prop
section
variable (K) (L)
def SdC (tc : TC) (wc : WC) : Prop := ∀ G F H σ ρ M k E (R : List V → List V → Hp → Prop), Fr K G F H M → Sto K F σ ρ → L.ok G F E → wc ρ M k E → (∀ F' H' vs us xs zs M', k xs zs M' → Ex F F' → Fr K G F' H' M' → IsAll K F' vs xs → IsAll K F' us zs → R vs us H') → tc σ H R
/-- a def's promise -/
def SdF (sp : Sp) (wf : WF) : Prop := ∀ G F H M vs xs k E (Q : VK) (EX : XK), Fr K G F H M → IsAll K F vs xs → wf xs M k E → Po K G F k Q → sp vs H Q EX
end
def wcP (wa : WA) : WC := fun ρ M k E => wa ρ M (fun xs M1 => k xs [] M1) E
def wcK (wa : WA) : WC := fun ρ M k E => wa ρ M (fun zs M1 => k [] zs M1) E
def wcPK (wa wb : WA) : WC := fun ρ M k E => wa ρ M (fun xs M1 => wb ρ M1 (fun zs M2 => k xs zs M2) E) E
theorem sdc_p {ta : TA} {wa : WA} (ha : SdA K L ta wa) : SdC K L (tcP ta) (wcP wa) := fun G F H σ ρ M k E R f s l h q => ha G F H σ ρ M _ E _ f s l h fun F1 H1 vs xs M1 h1 e1 f1 i1 => q F1 H1 vs [] xs [] M1 h1 e1 f1 i1 .nil
theorem sdc_k {ta : TA} {wa : WA} (ha : SdA K L ta wa) : SdC K L (tcK ta) (wcK wa) := fun G F H σ ρ M k E R f s l h q => ha G F H σ ρ M _ E _ f s l h fun F1 H1 vs xs M1 h1 e1 f1 i1 => q F1 H1 [] vs [] xs M1 h1 e1 f1 .nil i1
theorem sdc_pk {ta tb : TA} {wa wb : WA} (ha : SdA K L ta wa) (hb : SdA K L tb wb) : SdC K L (tcPK ta tb) (wcPK wa wb) := fun G F H σ ρ M k E R f s l h q => ha G F H σ ρ M _ E _ f s l h fun F1 H1 vs xs M1 h1 e1 f1 i1 =>
  hb G F1 H1 σ ρ M1 _ E _ f1 (s.up e1) (L.mono l e1) h1 fun F2 H2 us zs M2 h2 e2 f2 i2 => q F2 H2 vs us xs zs M2 h2 (e1.trans e2) f2 (i1.up e2) i2
theorem pick_is {vs us : List V} {xs zs : List D} (π : List Nat) (h : IsAll K F vs xs) (g : IsAll K F us zs) : IsAll K F (Rl.pick V.non π vs us) (Rl.pick D.non π xs zs) := by
  have a := h.app g
  induction π with
  | nil => exact .nil
  | cons i π ih =>
    refine .cons ?_ ih
    show Is K F ((vs ++ us).getD i V.non) ((xs ++ zs).getD i D.non)
    cases e : (xs ++ zs)[i]? with
    | some x =>
      obtain ⟨u, e2, rx⟩ := a.get e
      rw [List.getD_eq_getElem?_getD, List.getD_eq_getElem?_getD, e, e2]
      exact rx
    | none =>
      have hl := a.len
      have e2 : (vs ++ us)[i]? = none := List.getElem?_eq_none_iff.mpr (by rw [hl]; exact List.getElem?_eq_none_iff.mp e)
      rw [List.getD_eq_getElem?_getD, List.getD_eq_getElem?_getD, e, e2]
      exact .non
/-- the arguments at some places -/
def pkD (l : List D) : List Nat → (List D → Prop) → Prop
  | [], k => k []
  | i :: π, k => match l[i]? with
    | some d => pkD l π fun ys => k (d :: ys)
    | none => False
theorem pkD_ok {xs zs : List D} : ∀ {π : List Nat} {k : List D → Prop}, pkD (xs ++ zs) π k → k (Rl.pick D.non π xs zs)
  | [], _, h => h
  | i :: π, k, h => by
    unfold pkD at h
    split at h
    · rename_i d e
      have z := pkD_ok (π := π) h
      have e2 : (xs ++ zs).getD i D.non = d := by rw [List.getD_eq_getElem?_getD, e]; rfl
      show k ((xs ++ zs).getD i D.non :: Rl.pick D.non π xs zs)
      rw [e2]; exact z
    · exact h.elim
def pkS (l : List D) : List Nat → (List D → Prop) → Prop
  | [], k => k []
  | 0 :: _, _ => False
  | (i + 1) :: π, k => match l[i]? with
    | some d => pkS l π fun ys => k (d :: ys)
    | none => False
theorem pkS_ok {xs zs : List D} : ∀ {π : List Nat} {k : List D → Prop}, pkS (xs ++ zs) π k → ∃ ys, k ys ∧ ∀ x, Rl.pick D.non π (x :: xs) zs = ys
  | [], k, h => ⟨[], h, fun _ => rfl⟩
  | 0 :: π, k, h => by unfold pkS at h; exact h.elim
  | (i + 1) :: π, k, h => by
    unfold pkS at h
    split at h
    · rename_i d e
      obtain ⟨ys, z, hz⟩ := pkS_ok (π := π) h
      refine ⟨d :: ys, z, fun x => ?_⟩
      have e2 : ((x :: xs) ++ zs).getD (i + 1) D.non = d := by
        rw [List.getD_eq_getElem?_getD, List.cons_append, List.getElem?_cons_succ, e]; rfl
      show ((x :: xs) ++ zs).getD (i + 1) D.non :: Rl.pick D.non π (x :: xs) zs = _
      rw [e2, hz x]
    · exact h.elim
/-- f(..); the arguments' own order -/
def wFn (n m : Nat) (wf : WF) (wc : WC) : W := fun ρ M k E => wc ρ M (fun xs zs M1 => Ck n xs (Ck m zs (wf xs M1 k E))) E
def wFnK (n m : Nat) (wf : WF) (π : List Nat) (wc : WC) : W := fun ρ M k E => wc ρ M (fun xs zs M1 => Ck n xs (Ck m zs (pkD (xs ++ zs) π fun ys => wf ys M1 k E))) E
theorem sd_fn {n m : Nat} {sp : Sp} {wf : WF} {EX : XK} {tc : TC} {wc : WC} (hf : SdF K sp wf) (hc : SdC K L tc wc) : Sd K L (tFn n m sp (fun vs _ => vs) EX tc) (wFn n m wf wc) := fun G F H σ ρ M k E Q f s l h q => hc G F H σ ρ M _ E _ f s l h fun F1 H1 vs us xs zs M1 h1 e1 f1 i1 i2 => by
  obtain ⟨l1, h2⟩ := h1.get
  obtain ⟨l2, h3⟩ := h2.get
  exact ⟨i1.len.trans l1, i2.len.trans l2, hf G F1 H1 M1 vs xs k E Q EX f1 i1 h3 (q.up e1)⟩
theorem sd_fnK {n m : Nat} {sp : Sp} {wf : WF} {EX : XK} {π : List Nat} {tc : TC} {wc : WC} (hf : SdF K sp wf) (hc : SdC K L tc wc) : Sd K L (tFn n m sp (Rl.pick V.non π) EX tc) (wFnK n m wf π wc) := fun G F H σ ρ M k E Q f s l h q => hc G F H σ ρ M _ E _ f s l h fun F1 H1 vs us xs zs M1 h1 e1 f1 i1 i2 => by
  obtain ⟨l1, h2⟩ := h1.get
  obtain ⟨l2, h3⟩ := h2.get
  exact ⟨i1.len.trans l1, i2.len.trans l2, hf G F1 H1 M1 _ _ k E Q EX f1 (pick_is π i1 i2) (pkD_ok h3) (q.up e1)⟩
@[irreducible] def mtD (c c' : Str) (ns : List Str) (nm : Str) (P : Prop) : Prop := c' = c ∧ ns.contains nm = false ∧ P
theorem mtD.get {c c' : Str} {ns : List Str} {nm : Str} {P : Prop} (h : mtD c c' ns nm P) : c' = c ∧ ns.contains nm = false ∧ P := by unfold mtD at h; exact h
theorem mt_d {c : Str} {ns : List Str} {nm : Str} {P : Prop} (e : ns.contains nm = false) (h : P) : mtD c c ns nm P := by unfold mtD; exact ⟨rfl, e, h⟩
/-- o.m(..), of an instance of the class c -/
def wMt (c : Str) (nm : Str) (n m : Nat) (wf : WF) (wo : W) (wc : WC) : W := fun ρ M k E => wo ρ M (fun x M1 => asI x M1 fun c' ns _ => mtD c c' ns nm (wc ρ M1 (fun xs zs M2 => Ck n xs (Ck m zs (wf (x :: xs) M2 k E))) E)) E
def wMtK (c : Str) (nm : Str) (n m : Nat) (wf : WF) (π : List Nat) (wo : W) (wc : WC) : W := fun ρ M k E => wo ρ M (fun x M1 => asI x M1 fun c' ns _ => mtD c c' ns nm (wc ρ M1 (fun xs zs M2 => Ck n xs (Ck m zs (pkD ((x :: xs) ++ zs) π fun ys => wf ys M2 k E))) E)) E
theorem sd_mt {c nm : Str} {n m : Nat} {sp : Sp} {wf : WF} {EX : XK} {to : TE} {wo : W} {tc : TC} {wc : WC} (hf : SdF K sp wf) (ho : Sd K L to wo) (hc : SdC K L tc wc) : Sd K L (tMt (He.ga K c) nm n m sp (fun vs _ => vs) EX to tc) (wMt c nm n m wf wo wc) := fun G F H σ ρ M k E Q f s l h q =>
  ho G F H σ ρ M _ E _ f s l h fun F1 H1 v x M1 h1 e1 f1 i1 => by
    obtain ⟨a, c', ns, xs, dx, fs, rfl, q1, cf, q2, q3, hm⟩ := asI_ok f1 i1 h1
    obtain ⟨rfl, q4, h2⟩ := hm.get
    refine ⟨a, dx, fs, rfl, q1, lookup_none q2 q4, hc G F1 H1 σ ρ M1 _ E _ f1 (s.up e1) (L.mono l e1) h2 fun F2 H2 vs us xs zs M2 h3 e2 f2 j1 j2 => ?_⟩
    obtain ⟨l1, h4⟩ := h3.get
    obtain ⟨l2, h5⟩ := h4.get
    exact ⟨j1.len.trans l1, j2.len.trans l2, hf G F2 H2 M2 _ _ k E Q EX f2 (.cons (i1.up e2) j1) h5 (q.up (e1.trans e2))⟩
theorem sd_mtK {c nm : Str} {n m : Nat} {sp : Sp} {wf : WF} {EX : XK} {π : List Nat} {to : TE} {wo : W} {tc : TC} {wc : WC} (hf : SdF K sp wf) (ho : Sd K L to wo) (hc : SdC K L tc wc) : Sd K L (tMt (He.ga K c) nm n m sp (Rl.pick V.non π) EX to tc) (wMtK c nm n m wf π wo wc) := fun G F H σ ρ M k E Q f s l h q =>
  ho G F H σ ρ M _ E _ f s l h fun F1 H1 v x M1 h1 e1 f1 i1 => by
    obtain ⟨a, c', ns, xs, dx, fs, rfl, q1, cf, q2, q3, hm⟩ := asI_ok f1 i1 h1
    obtain ⟨rfl, q4, h2⟩ := hm.get
    refine ⟨a, dx, fs, rfl, q1, lookup_none q2 q4, hc G F1 H1 σ ρ M1 _ E _ f1 (s.up e1) (L.mono l e1) h2 fun F2 H2 vs us xs zs M2 h3 e2 f2 j1 j2 => ?_⟩
    obtain ⟨l1, h4⟩ := h3.get
    obtain ⟨l2, h5⟩ := h4.get
    exact ⟨j1.len.trans l1, j2.len.trans l2, hf G F2 H2 M2 _ _ k E Q EX f2 (pick_is π (.cons (i1.up e2) j1) j2) (pkD_ok h5) (q.up (e1.trans e2))⟩
/-- C(..): a new instance; frozen behind its __init__, or a cell -/
def isNone (P : Prop) : D → Prop
  | .non => P
  | _ => False
@[irreducible] def newI (m : Bool) (c : Str) (wf : WF) (as : D → List D) (M : Mem) (k : D → Mem → Prop) (E : XP) : Prop := ∀ p, M p = none → wf (as (.ref p)) (mu M p (.ins c [] [])) (fun r M2 => isNone (match m with
  | true => k (.ref p) M2
  | false => cellI p M2 fun c' ns xs => c' = c ∧ k (.ins c ns xs) (er M2 p)) r) E
/-- an instance of a class that does not change afterwards -/
theorem new_f {c : Str} {wf : WF} {as : D → List D} {M : Mem} {k : D → Mem → Prop} {E : XP} {ns : List Str} {xs : List D} (h : ∀ p (k' : D → Mem → Prop), M p = none → k' .non (mu M p (.ins c ns xs)) → wf (as (.ref p)) (mu M p (.ins c [] [])) k' E) (hk : k (.ins c ns xs) M) : newI false c wf as M k E := by
  unfold newI
  exact fun p hp => h p _ hp (cellI_mu ⟨rfl, by rw [er_mu hp]; exact hk⟩)
theorem new_t {c : Str} {wf : WF} {as : D → List D} {M : Mem} {k : D → Mem → Prop} {E : XP} (h : ∀ p, M p = none → wf (as (.ref p)) (mu M p (.ins c [] [])) (fun r M2 => isNone (k (.ref p) M2) r) E) : newI true c wf as M k E := by
  unfold newI
  exact h
def wNew (b : Bool) (c : Str) (n m : Nat) (wf : WF) (wc : WC) : W := fun ρ M k E => wc ρ M (fun xs zs M1 => Ck n xs (Ck m zs (newI b c wf (fun x => x :: xs) M1 k E))) E
def wNewK (b : Bool) (c : Str) (n m : Nat) (wf : WF) (π : List Nat) (wc : WC) : W := fun ρ M k E => wc ρ M (fun xs zs M1 => Ck n xs (Ck m zs (match π with
  | 0 :: π' => pkS (xs ++ zs) π' fun ys => newI b c wf (fun x => x :: ys) M1 k E
  | _ => False))) E
theorem Fr.twice (f : Fr K G F H M) {x dx : Addr} {o : HO} {c : Cell} (n : H x = none) (nd : H dx = none) (ne : dx ≠ x) {o' : HO} (h : At K F (upd (upd H dx o') x o) x c) : Fr K G F (upd (upd H dx o') x o) (mu M x c) :=
  (f.more (o := o') nd).own (by rw [upd_ne ne.symm]; exact n) h
theorem newI_ok {b : Bool} {c : Str} {sp : Sp} {wf : WF} {as : D → List D} {k : D → Mem → Prop} {E : XP} {Q : VK} {EX : XK} (hf : SdF K sp wf) (cf : CF K c []) (f : Fr K G F H M) (h : newI b c wf as M k E) (q : Po K G F k Q) (vs : V → List V) (hv : ∀ p, IsAll K F (vs (.ref p)) (as (.ref p))) :
    ∀ x dx, H x = none → H dx = none → dx ≠ x → sp (vs (.ref x)) (upd (upd H dx (.own x)) x (.ins (He.ga K c) dx [])) (fun v H2 => v = .non ∧ Q (.ref x) H2) EX := fun x dx nx nd ne => by
  unfold newI at h
  have f1 := f.twice (o := .ins (He.ga K c) dx []) (c := .ins c [] []) (o' := .own x) nx nd ne ⟨dx, [], upd_same, cf, rfl, .nil⟩
  refine hf G F _ _ _ _ _ E _ EX f1 (hv x) (h x (f.mh nx)) fun F2 H2 v r M2 h2 e2 f2 i2 => ?_
  cases i2 with
  | non =>
    cases b with
    | true => exact ⟨rfl, q F2 H2 _ _ M2 h2 e2 f2 (.ref x)⟩
    | false =>
      obtain ⟨c', ns, xs, q1, rfl, q2⟩ := cellI.get h2
      obtain ⟨F3, e3, f3, i3⟩ := f2.frz q1
      exact ⟨rfl, q F3 H2 _ _ _ q2 (e2.trans e3) f3 i3⟩
  | _ => cases h2
theorem sd_new {b : Bool} {c : Str} {n m : Nat} {sp : Sp} {wf : WF} {EX : XK} {tc : TC} {wc : WC} (hf : SdF K sp wf) (cf : CF K c []) (hc : SdC K L tc wc) : Sd K L (tNew (He.ga K c) n m sp (fun vs _ => vs) EX tc) (wNew b c n m wf wc) := fun G F H σ ρ M k E Q f s l h q => hc G F H σ ρ M _ E _ f s l h fun F1 H1 vs us xs zs M1 h1 e1 f1 i1 i2 => by
  obtain ⟨l1, h2⟩ := h1.get
  obtain ⟨l2, h3⟩ := h2.get
  exact ⟨i1.len.trans l1, i2.len.trans l2, newI_ok hf cf f1 h3 (q.up e1) (fun x => x :: vs) fun p => .cons (.ref p) i1⟩
theorem sd_newK {b : Bool} {c : Str} {n m : Nat} {sp : Sp} {wf : WF} {EX : XK} {π : List Nat} {tc : TC} {wc : WC} (hf : SdF K sp wf) (cf : CF K c []) (hc : SdC K L tc wc) : Sd K L (tNew (He.ga K c) n m sp (Rl.pick V.non π) EX tc) (wNewK b c n m wf π wc) := fun G F H σ ρ M k E Q f s l h q => hc G F H σ ρ M _ E _ f s l h fun F1 H1 vs us xs zs M1 h1 e1 f1 i1 i2 => by
  obtain ⟨l1, h2⟩ := h1.get
  obtain ⟨l2, h3⟩ := h2.get
  split at h3
  · rename_i π'
    obtain ⟨ys, h4, h5⟩ := pkS_ok h3
    exact ⟨i1.len.trans l1, i2.len.trans l2, newI_ok hf cf f1 h4 (q.up e1) (fun x => Rl.pick V.non (0 :: π') (x :: vs) us) fun p => by
      have z := pick_is (0 :: π') (.cons (.ref p) i1) i2
      have e : Rl.pick D.non (0 :: π') (D.ref p :: xs) zs = D.ref p :: ys := by
        show D.ref p :: Rl.pick D.non π' (D.ref p :: xs) zs = _
        rw [h5]
      rw [e] at z
      exact z⟩
  · exact h3.elim
/-! ### promises from bodies -/
def start' (n : Nat) (xs : List D) : St' := xs.map some ++ List.replicate (n - xs.length) none
theorem start_ok {N : List Str} {vs : List V} {xs : List D} (h : IsAll K F vs xs) : Sto K F (L2.start N vs) (start' N.length xs) := by
  refine ⟨by unfold L2.start start'; simp [h.len], fun i x e => ?_⟩
  unfold start' at e
  by_cases hi : i < xs.length
  · rw [List.getElem?_append_left (by simpa using hi), List.getElem?_map] at e
    obtain ⟨y, e1, e2⟩ := Option.map_eq_some_iff.mp e
    cases e2
    obtain ⟨v, h1, h2⟩ := h.get e1
    refine ⟨v, ?_, h2⟩
    unfold L2.start
    rw [List.getElem?_append_left (by simp; exact (List.getElem?_eq_some_iff.mp h1).1), List.getElem?_map, h1]; rfl
  · rw [List.getElem?_append_right (by simpa using hi)] at e
    have := List.eq_of_mem_replicate (List.mem_of_getElem? e)
    cases this
/-- a def's transformer: n arguments, N slots -/
def wDef (n N : Nat) (ws : WS) : WF := fun xs M k E => Ck n xs (ws (start' N xs) M { nx := fun _ M' => k .non M', rt := k } E)
theorem sdf_of {sp : Sp} {ts : TS} {ws : WS} {n : Nat} {N : List Str} {M : Nat} (hM : N.length = M) (hsp : ∀ vs H Q (EX : XK), (vs.length = n ∧ ts { nx := fun _ H' => Q .non H', rt := Q } (L2.start N vs) H) → sp vs H Q EX) (hs : SdS K XL.never ts ws) : SdF K sp (wDef n M ws) := fun G F H M' vs xs k E Q EX f i h q => by
  subst hM
  obtain ⟨l1, h1⟩ := Ck.get h
  exact hsp vs H Q EX ⟨i.len.trans l1, hs G F H _ _ M' _ E _ f (start_ok i) trivial h1 (fun F' H' σ' ρ' M'' hk e f' s' => q F' H' .non .non M'' hk e f' .non) q (fun _ _ _ _ _ hk => hk.elim) fun _ _ _ _ _ hk => hk.elim⟩
end
end Px

set_option Elab.async false
set_option linter.all false
set_option maxRecDepth 100000
set_option maxHeartbeats 4000000
/-! Operators, built-ins, methods of lists and texts. -/
namespace Px
open PySem PySem.Spec PyProof.Rows L2 Rl RZ RT
open Evl (Ex)
/-! ### data that == compares -/
mutual
def py : D → Option PyData
  | .non => some .none
  | .bl b => some (.bool b)
  | .int i => some (.int i)
  | .str s => some (.str s)
  | .lst xs => (pyAll xs).map .list
  | .tup xs => (pyAll xs).map .tuple
  | .ty _ => none
  | .ins _ _ _ => none
  | .cls _ => none
  | .ref _ => none
  | .scr _ => none
  | .tux _ => none
def pyAll : List D → Option (List PyData)
  | [] => some []
  | x :: xs => (py x).bind fun p => (pyAll xs).map fun ps => p :: ps
end
section
variable {K : Frag} {F H : Hp}
mutual
theorem Is.dp (e : Ex F H) : ∀ (x : D) (v : V) (p : PyData), Is K F v x → py x = some p → Dp K H v p
  | .non, _, _, h, q => by cases h; cases q; exact .non
  | .bl b, _, _, h, q => by cases h; cases q; exact .bl b
  | .int i, _, _, h, q => by cases h; cases q; exact .int i
  | .str s, _, _, h, q => by cases h; cases q; exact .str s
  | .lst xs, _, p, h, q => by
    simp only [py, Option.map_eq_some_iff] at q
    obtain ⟨ps, q, rfl⟩ := q
    cases h with
    | lst h1 h2 => exact .lst (Evl.sq_of (e _ _ h1)) (IsAll.dp e xs _ ps h2 q)
  | .tup xs, _, p, h, q => by
    simp only [py, Option.map_eq_some_iff] at q
    obtain ⟨ps, q, rfl⟩ := q
    cases h with
    | tup h1 h2 => exact .tup (Evl.ex_t e h1) (IsAll.dp e xs _ ps h2 q)
  | .ty _, _, _, _, q => by simp [py] at q
  | .ins _ _ _, _, _, _, q => by simp [py] at q
  | .cls _, _, _, _, q => by simp [py] at q
  | .ref _, _, _, _, q => by simp [py] at q
  | .scr _, _, _, _, q => by simp [py] at q
  | .tux _, _, _, _, q => by simp [py] at q
theorem IsAll.dp (e : Ex F H) : ∀ (xs : List D) (vs : List V) (ps : List PyData), IsAll K F vs xs → pyAll xs = some ps → DpAll K H vs ps
  | [], _, _, h, q => by cases h; cases q; exact .nil
  | x :: xs, _, ps, h, q => by
    simp only [pyAll, Option.bind_eq_some_iff, Option.map_eq_some_iff] at q
    obtain ⟨p, q1, qs, q2, rfl⟩ := q
    cases h with
    | cons h1 h2 => exact .cons (Is.dp e x _ p h1 q1) (IsAll.dp e xs _ qs h2 q2)
end
end
/-- a datum that == compares, of some depth -/
structure Pk (n : Nat) (x : D) (p : PyData) : Prop where
  py : py x = some p
  ok : p.canLay0 = true
  dp : p.depth ≤ n
def PkAll (n : Nat) (xs : List D) (ps : List PyData) : Prop := pyAll xs = some ps ∧ PyData.canLayAll0 ps = true ∧ PyData.depthAll ps ≤ n
theorem Pk.sh {x : D} {p : PyData} {n : Nat} (h : Pk n x p) (hn : n ≤ 64) : SeqAt.shaped p = true := by
  unfold SeqAt.shaped
  rw [h.ok, decide_eq_true (Nat.le_trans h.dp hn)]
  rfl
theorem pk_non {n : Nat} : Pk n .non .none := ⟨rfl, rfl, Nat.zero_le _⟩
theorem pk_bl {n : Nat} {b : Bool} : Pk n (.bl b) (.bool b) := ⟨rfl, rfl, Nat.zero_le _⟩
theorem pk_int {n : Nat} {i : Int} : Pk n (.int i) (.int i) := ⟨rfl, rfl, Nat.zero_le _⟩
theorem pk_str {n : Nat} {s : Str} (h : PyData.canLay0 (.str s) = true) : Pk n (.str s) (.str s) := ⟨rfl, h, Nat.zero_le _⟩
theorem pka_nil {n : Nat} : PkAll n [] [] := ⟨rfl, rfl, Nat.zero_le _⟩
theorem pka_cons {n : Nat} {x : D} {p : PyData} {xs : List D} {ps : List PyData} (h : Pk n x p) (g : PkAll n xs ps) : PkAll n (x :: xs) (p :: ps) := by
  refine ⟨?_, ?_, ?_⟩
  · simp [pyAll, h.py, g.1]
  · simp [PyData.canLayAll0, h.ok, g.2.1]
  · simp only [PyData.depthAll]
    have := h.dp
    have := g.2.2
    omega
theorem pk_lst {n : Nat} {xs : List D} {ps : List PyData} (h : PkAll n xs ps) : Pk (n + 1) (.lst xs) (.list ps) := by
  refine ⟨by simp [py, h.1], ?_, ?_⟩
  · simp [PyData.canLay0, h.2.1]
  · simp only [PyData.depth]; have := h.2.2; omega
theorem pk_tup {n : Nat} {xs : List D} {ps : List PyData} (h : PkAll n xs ps) : Pk (n + 1) (.tup xs) (.tuple ps) := by
  refine ⟨by simp [py, h.1], ?_, ?_⟩
  · simp [PyData.canLay0, h.2.1]
  · simp only [PyData.depth]; have := h.2.2; omega
theorem pka_ints {n : Nat} : ∀ l : List Int, PkAll n (Li l) (l.map .int)
  | [] => pka_nil
  | i :: l => pka_cons pk_int (pka_ints l)
theorem eqv_ints : ∀ l m : List Int, PyData.eqvAll (l.map .int) (m.map .int) = decide (l = m)
  | [], [] => by simp [PyData.eqvAll]
  | [], _ :: _ => by simp [PyData.eqvAll]
  | _ :: _, [] => by simp [PyData.eqvAll]
  | i :: l, j :: m => by
    simp only [List.map_cons, PyData.eqvAll, PyData.eqv, eqv_ints l m]
    by_cases h : i = j <;> by_cases g : l = m <;> simp [h, g]
theorem dec_intV {i j : Int} : decide (V.int i = V.int j) = decide (i = j) := by by_cases h : i = j <;> simp [h]
theorem dec_strV {i j : Str} : decide (V.str i = V.str j) = decide (i = j) := by by_cases h : i = j <;> simp [h]
/-- .. that may be a cell -/
def pyM (M : Mem) : D → Option PyData
  | .ref a => match M a with
    | some (.lst xs) => (pyAll xs).map .list
    | _ => none
  | x => py x
section
variable {K : Frag} {G F H : Hp} {M : Mem}
theorem dp_of {x : D} {v : V} {p : PyData} (f : Fr K G F H M) (i : Is K F v x) (h : pyM M x = some p) : Dp K H v p := by
  cases x with
  | ref a =>
    cases i
    simp only [pyM] at h
    split at h
    · rename_i xs e
      obtain ⟨_, vs, q1, q2⟩ := f.mc a _ e
      obtain ⟨ps, q3, rfl⟩ := Option.map_eq_some_iff.mp h
      exact .lst (Evl.sq_of q1) (IsAll.dp f.fh xs _ ps q2 q3)
    · cases h
  | _ => exact Is.dp f.fh _ _ _ i h
/-! ### sequences by values -/
@[irreducible] def intsD (xs : List D) (k : List Int → Prop) : Prop := ∃ l, xs = Li l ∧ k l
theorem intsD.get {xs : List D} {k : List Int → Prop} (h : intsD xs k) : ∃ l, xs = Li l ∧ k l := by unfold intsD at h; exact h
theorem ints_of {l : List Int} {k : List Int → Prop} (h : k l) : intsD (Li l) k := by unfold intsD; exact ⟨l, rfl, h⟩
theorem ints_eq {xs : List D} {l : List Int} {k : List Int → Prop} (e : xs = Li l) (h : k l) : intsD xs k := by unfold intsD; exact ⟨l, e, h⟩
@[irreducible] def strsD (xs : List D) (k : List Str → Prop) : Prop := ∃ l, xs = Ls l ∧ k l
theorem strsD.get {xs : List D} {k : List Str → Prop} (h : strsD xs k) : ∃ l, xs = Ls l ∧ k l := by unfold strsD at h; exact h
theorem strs_of {l : List Str} {k : List Str → Prop} (h : k l) : strsD (Ls l) k := by unfold strsD; exact ⟨l, rfl, h⟩
theorem strs_eq {xs : List D} {l : List Str} {k : List Str → Prop} (e : xs = Ls l) (h : k l) : strsD xs k := by unfold strsD; exact ⟨l, e, h⟩
@[irreducible] def blsD (xs : List D) (k : List Bool → Prop) : Prop := ∃ l, xs = Lb l ∧ k l
theorem blsD.get {xs : List D} {k : List Bool → Prop} (h : blsD xs k) : ∃ l, xs = Lb l ∧ k l := by unfold blsD at h; exact h
theorem bls_of {l : List Bool} {k : List Bool → Prop} (h : k l) : blsD (Lb l) k := by unfold blsD; exact ⟨l, rfl, h⟩
theorem bls_eq {xs : List D} {l : List Bool} {k : List Bool → Prop} (e : xs = Lb l) (h : k l) : blsD xs k := by unfold blsD; exact ⟨l, e, h⟩
def asS : D → Mem → (List D → Prop) → Prop
  | .lst xs, _, k => k xs
  | .tup xs, _, k => k xs
  | .ref a, M, k => cellL a M k
  | _, _, _ => False
theorem asS_ok {x : D} {v : V} {k : List D → Prop} (f : Fr K G F H M) (i : Is K F v x) (h : asS x M k) : ∃ a vs xs, v = .ref a ∧ IsAll K F vs xs ∧ (SqL K H a vs ∨ SqT K H a vs) ∧ k xs := by
  cases i with
  | lst h1 h2 => exact ⟨_, _, _, rfl, h2, .inl (Evl.sq_of (f.fh _ _ h1)), h⟩
  | tup h1 h2 => exact ⟨_, _, _, rfl, h2, .inr (Evl.ex_t f.fh h1), h⟩
  | ref a =>
    obtain ⟨xs, e, hk⟩ := cellL.get h
    obtain ⟨_, vs, q1, q2⟩ := f.mc a _ e
    exact ⟨a, vs, xs, rfl, q2, .inl (Evl.sq_of q1), hk⟩
  | _ => cases h
/-- a list's items -/
def asLL : D → Mem → (List D → Prop) → Prop
  | .lst xs, _, k => k xs
  | .ref a, M, k => cellL a M k
  | _, _, _ => False
theorem asLL_ok {x : D} {v : V} {k : List D → Prop} (f : Fr K G F H M) (i : Is K F v x) (h : asLL x M k) : ∃ a vs xs, v = .ref a ∧ IsAll K F vs xs ∧ H a = some (.lst vs) ∧ k xs := by
  cases i with
  | lst h1 h2 => exact ⟨_, _, _, rfl, h2, f.fh _ _ h1, h⟩
  | ref a =>
    obtain ⟨xs, e, hk⟩ := cellL.get h
    obtain ⟨_, vs, q1, q2⟩ := f.mc a _ e
    exact ⟨a, vs, xs, rfl, q2, q1, hk⟩
  | _ => cases h
def asT : D → (List D → Prop) → Prop
  | .tup xs, k => k xs
  | _, _ => False
theorem asT_ok {x : D} {v : V} {k : List D → Prop} (f : Fr K G F H M) (i : Is K F v x) (h : asT x k) : ∃ a vs xs, v = .ref a ∧ IsAll K F vs xs ∧ SqT K H a vs ∧ k xs ∧ x = .tup xs := by
  cases i with
  | tup h1 h2 => exact ⟨_, _, _, rfl, h2, Evl.ex_t f.fh h1, h, rfl⟩
  | _ => cases h
def asInt : D → (Int → Prop) → Prop
  | .int i, k => k i
  | _, _ => False
theorem asInt_ok {x : D} {v : V} {k : Int → Prop} (i : Is K F v x) (h : asInt x k) : ∃ j, v = .int j ∧ x = .int j ∧ k j := by
  cases i <;> first | exact ⟨_, rfl, rfl, h⟩ | cases h
def asStr : D → (Str → Prop) → Prop
  | .str i, k => k i
  | _, _ => False
theorem asStr_ok {x : D} {v : V} {k : Str → Prop} (i : Is K F v x) (h : asStr x k) : ∃ j, v = .str j ∧ x = .str j ∧ k j := by
  cases i <;> first | exact ⟨_, rfl, rfl, h⟩ | cases h
theorem lend {k : D → Mem → Prop} {Q : VK} {v : V} {x : D} (f : Fr K G F H M) (q : Po K G F k Q) (i : Is K F v x) (h : k x M) : Q v H := q F H v x M h (Ex.refl F) f i
theorem lendT {k : D → Mem → Prop} {Q : VK} {vs : List V} {xs : List D} (f : Fr K G F H M) (q : Po K G F k Q) (i : IsAll K F vs xs) (h : k (.tup xs) M) {p : Addr} (n : H p = none) : Q (.ref p) (upd H p (.tup vs)) :=
  q _ _ (.ref p) _ M h (f.exl n) (f.laid n) (.tup (SqT.of upd_same) (i.up (f.exl n)))
/-! ### two-place operators -/
def dAdd (m : Bool) : D2 := fun x y M k => match x with
  | .int i => asInt y fun j => k (.int (i + j)) M
  | .str a => asStr y fun b => Sz (a.length + b.length) (k (.str (a ++ b)) M)
  | .tup xs => asT y fun ys => Sz (xs.length + ys.length) (k (.tup (xs ++ ys)) M)
  | x => asLL x M fun xs => asLL y M fun ys => Sz (xs.length + ys.length) (mkL m (xs ++ ys) M k)
theorem s_add {m : Bool} : Sd2 K (qAdd K) (dAdd m) := fun G F H M x y v u k Q f ix iy h q => by
  have lists : (asLL x M fun xs => asLL y M fun ys => Sz (xs.length + ys.length) (mkL m (xs ++ ys) M k)) → qAdd K v u H Q := fun h => by
    obtain ⟨a, vs, xs, rfl, i1, e1, h⟩ := asLL_ok f ix h
    obtain ⟨b, ws, ys, rfl, i2, e2, h⟩ := asLL_ok f iy h
    obtain ⟨hl, h⟩ := h.get
    exact .inr (.inr (.inl ⟨a, b, vs, ws, rfl, rfl, .inl e1, .inl e2, by rw [i1.len, i2.len]; exact hl, fun p n => mkL_ok f (i1.app i2) h q n⟩))
  cases x with
  | int i =>
    cases ix
    obtain ⟨j, rfl, rfl, h⟩ := asInt_ok iy h
    exact .inl ⟨i, j, rfl, rfl, lend f q (.int _) h⟩
  | str a =>
    cases ix
    obtain ⟨b, rfl, rfl, h⟩ := asStr_ok iy h
    obtain ⟨hl, h⟩ := h.get
    exact .inr (.inl ⟨a, b, rfl, rfl, hl, lend f q (.str _) h⟩)
  | tup xs =>
    obtain ⟨a, vs, xs', rfl, i1, e1, _, ex⟩ := asT_ok (k := fun _ => True) f ix trivial
    cases ex
    obtain ⟨b, ws, ys, rfl, i2, e2, hz, rfl⟩ := asT_ok f iy h
    obtain ⟨hl, hk⟩ := hz.get
    refine .inr (.inr (.inr ⟨a, b, vs, ws, rfl, rfl, e1, e2, by rw [i1.len, i2.len]; exact hl, fun e => ?_, fun _ e => ?_, fun _ _ p hp => lendT f q (i1.app i2) hk hp⟩))
    · subst e; cases i1; exact lend f q iy hk
    · subst e; cases i2
      have e2 : xs ++ [] = xs := List.append_nil xs
      rw [e2] at hk
      exact lend f q ix hk
  | _ => exact lists h
def dSub : D2 := fun x y M k => asInt x fun i => asInt y fun j => k (.int (i - j)) M
theorem s_sub : Sd2 K qSub dSub := fun G F H M x y v u k Q f ix iy h q => by
  obtain ⟨i, rfl, rfl, h⟩ := asInt_ok ix h
  obtain ⟨j, rfl, rfl, h⟩ := asInt_ok iy h
  exact ⟨i, j, rfl, rfl, lend f q (.int _) h⟩
/-- products that the model makes -/
def MulOk (i j : Int) : Prop := CMul i j ∨ CMulW i j
@[irreducible] def mulD (i j : Int) (k : Int → Prop) : Prop := MulOk i j ∧ k (i * j)
theorem mulD.get {i j : Int} {k : Int → Prop} (h : mulD i j k) : MulOk i j ∧ k (i * j) := by unfold mulD at h; exact h
theorem mul_of {i j : Int} {k : Int → Prop} (h0 : MulOk i j) (h : k (i * j)) : mulD i j k := by unfold mulD; exact ⟨h0, h⟩
theorem mul_l {i j : Int} {k : Int → Prop} (h0 : -(2 ^ 64) < i ∧ i < 2 ^ 64) (h : k (i * j)) : mulD i j k := mul_of (.inl (.inl h0)) h
theorem mul_r {i j : Int} {k : Int → Prop} (h0 : -(2 ^ 64) < j ∧ j < 2 ^ 64) (h : k (i * j)) : mulD i j k := mul_of (.inl (.inr h0)) h
theorem big_log {j : Int} {n : Nat} (hn : 0 < n) (h : j.natAbs < 2 ^ n) : j.natAbs.log2 < n := PySem.Flt.log2_lt_of hn h
theorem mul_w {i j : Int} {n m : Nat} {k : Int → Prop} (hi : i.natAbs < 2 ^ n) (hj : j.natAbs < 2 ^ m) (hn : 0 < n) (hm : 0 < m) (hs : n + m ≤ 1000000) (h : k (i * j)) : mulD i j k := mul_of (.inr (by
  have := big_log hn hi
  have := big_log hm hj
  show i.natAbs.log2 + j.natAbs.log2 < 1000000
  omega)) h
/-- a list again and again -/
@[irreducible] def repD (n : Nat) (j : Int) (P : Prop) : Prop := (-(2 ^ 63) ≤ j ∧ j < 2 ^ 63) ∧ n * j.toNat ≤ sizeLine ∧ P
theorem repD.get {n : Nat} {j : Int} {P : Prop} (h : repD n j P) : (-(2 ^ 63) ≤ j ∧ j < 2 ^ 63) ∧ n * j.toNat ≤ sizeLine ∧ P := by unfold repD at h; exact h
theorem rep_of {n : Nat} {j : Int} {P : Prop} (h1 : -(2 ^ 63) ≤ j ∧ j < 2 ^ 63) (h2 : n * j.toNat ≤ 16777216) (h : P) : repD n j P := by unfold repD; exact ⟨h1, by rw [sizeLine_eq]; exact h2, h⟩
def dMul (m : Bool) : D2 := fun x y M k => asInt y fun j => match x with
  | .int i => mulD i j fun n => k (.int n) M
  | x => asLL x M fun xs => repD xs.length j (mkL m (List.replicate j.toNat xs).flatten M k)
theorem s_mul {m : Bool} : Sd2 K qMul (dMul m) := fun G F H M x y v u k Q f ix iy h q => by
  obtain ⟨j, rfl, rfl, h⟩ := asInt_ok iy h
  have lists : (asLL x M fun xs => repD xs.length j (mkL m (List.replicate j.toNat xs).flatten M k)) → qMul v (.int j) H Q := fun h => by
    obtain ⟨a, vs, xs, rfl, i1, e1, h⟩ := asLL_ok f ix h
    obtain ⟨h1, hl, h⟩ := h.get
    exact .inr (.inr ⟨a, j, vs, rfl, rfl, e1, h1.1, h1.2, by rw [i1.len]; exact hl, fun p n => mkL_ok f (i1.rep _) h q n⟩)
  cases x with
  | int i =>
    cases ix
    obtain ⟨h0, h⟩ := mulD.get h
    rcases h0 with c | c
    · exact .inl ⟨i, j, rfl, rfl, c, lend f q (.int _) h⟩
    · exact .inr (.inl ⟨i, j, rfl, rfl, c, lend f q (.int _) h⟩)
  | _ => exact lists h
@[irreducible] def fdD (i j : Int) (k : Int → Prop) : Prop := (0 < j ∧ j.natAbs.log2 < 9000 ∧ k (i / j)) ∨ (j < 0 ∧ j.natAbs < 1073741824 ∧ k (i.fdiv j))
theorem fdD.get {i j : Int} {k : Int → Prop} (h : fdD i j k) : (0 < j ∧ j.natAbs.log2 < 9000 ∧ k (i / j)) ∨ (j < 0 ∧ j.natAbs < 1073741824 ∧ k (i.fdiv j)) := by unfold fdD at h; exact h
theorem fd_pos {i j : Int} {k : Int → Prop} (h0 : 0 < j ∧ j < 2 ^ 63) (h : k (i / j)) : fdD i j k := by unfold fdD; exact .inl ⟨h0.1, Nat.lt_trans (big_log (n := 63) (by decide) (by omega)) (by decide), h⟩
theorem fd_w {i j : Int} {k : Int → Prop} (h0 : 0 < j) (n : Nat) (hn : 0 < n) (h1 : j.natAbs < 2 ^ n) (h2 : n ≤ 9000) (h : k (i / j)) : fdD i j k := by unfold fdD; exact .inl ⟨h0, Nat.lt_of_lt_of_le (big_log hn h1) h2, h⟩
theorem fd_neg {i j : Int} {k : Int → Prop} (h0 : j < 0 ∧ -1073741824 < j) (h : k (i.fdiv j)) : fdD i j k := by unfold fdD; exact .inr ⟨h0.1, by omega, h⟩
def dFd : D2 := fun x y M k => asInt x fun i => asInt y fun j => fdD i j fun n => k (.int n) M
theorem s_fd : Sd2 K qFd dFd := fun G F H M x y v u k Q f ix iy h q => by
  obtain ⟨i, rfl, rfl, h⟩ := asInt_ok ix h
  obtain ⟨j, rfl, rfl, h⟩ := asInt_ok iy h
  rcases fdD.get h with ⟨h1, h2, h⟩ | ⟨h1, h2, h⟩
  · exact .inr ⟨i, j, rfl, rfl, ⟨h1, h2⟩, lend f q (.int _) h⟩
  · exact .inl ⟨i, j, rfl, rfl, ⟨by omega, h2⟩, lend f q (.int _) h⟩
@[irreducible] def mdD (i j : Int) (k : Int → Prop) : Prop := (0 < j ∧ k (i % j)) ∨ (j < 0 ∧ k (i.fmod j))
theorem mdD.get {i j : Int} {k : Int → Prop} (h : mdD i j k) : (0 < j ∧ k (i % j)) ∨ (j < 0 ∧ k (i.fmod j)) := by unfold mdD at h; exact h
theorem md_pos {i j : Int} {k : Int → Prop} (h0 : 0 < j) (h : k (i % j)) : mdD i j k := by unfold mdD; exact .inl ⟨h0, h⟩
theorem md_neg {i j : Int} {k : Int → Prop} (h0 : j < 0) (h : k (i.fmod j)) : mdD i j k := by unfold mdD; exact .inr ⟨h0, h⟩
def dMd : D2 := fun x y M k => asInt x fun i => asInt y fun j => mdD i j fun n => k (.int n) M
theorem s_md : Sd2 K qMd dMd := fun G F H M x y v u k Q f ix iy h q => by
  obtain ⟨i, rfl, rfl, h⟩ := asInt_ok ix h
  obtain ⟨j, rfl, rfl, h⟩ := asInt_ok iy h
  rcases mdD.get h with ⟨h1, h⟩ | ⟨h1, h⟩
  · exact .inl ⟨i, j, rfl, rfl, h1, lend f q (.int _) h⟩
  · exact .inr ⟨i, j, rfl, rfl, by omega, lend f q (.int _) h⟩
@[irreducible] def pwD (i j : Int) (k : Int → Prop) : Prop := CPow i j ∧ k (i ^ j.toNat)
theorem pwD.get {i j : Int} {k : Int → Prop} (h : pwD i j k) : CPow i j ∧ k (i ^ j.toNat) := by unfold pwD at h; exact h
theorem pw_of {i j : Int} {k : Int → Prop} (h0 : 0 ≤ j ∧ j ≤ 1000000) (h1 : i.natAbs < 2 ^ 64) (h : k (i ^ j.toNat)) : pwD i j k := by unfold pwD; exact ⟨⟨h0.1, h0.2, h1⟩, h⟩
def dPw : D2 := fun x y M k => asInt x fun i => asInt y fun j => pwD i j fun n => k (.int n) M
theorem s_pw : Sd2 K qPw dPw := fun G F H M x y v u k Q f ix iy h q => by
  obtain ⟨i, rfl, rfl, h⟩ := asInt_ok ix h
  obtain ⟨j, rfl, rfl, h⟩ := asInt_ok iy h
  obtain ⟨c, h⟩ := h.get
  exact ⟨i, j, rfl, rfl, c, lend f q (.int _) h⟩
def dLt : D2 := fun x y M k => match x with
  | .tup xs => asT y fun ys => intsD xs fun ns => intsD ys fun ms => k (.bl (HT.lexLt ns ms)) M
  | x => asInt x fun i => asInt y fun j => k (.bl (decide (i < j))) M
theorem s_lt : Sd2 K (qLt K) dLt := fun G F H M x y v u k Q f ix iy h q => by
  have two_ : (asInt x fun i => asInt y fun j => k (.bl (decide (i < j))) M) → qLt K v u H Q := fun h => by
    obtain ⟨i, rfl, rfl, h⟩ := asInt_ok ix h
    obtain ⟨j, rfl, rfl, h⟩ := asInt_ok iy h
    exact .inl ⟨i, j, rfl, rfl, lend f q (.bl _) h⟩
  cases x with
  | tup xs =>
    obtain ⟨_, _, ys, rfl, _, _, hy, rfl⟩ := asT_ok f iy h
    obtain ⟨ns, e1, hy⟩ := hy.get
    obtain ⟨ms, e2, hy⟩ := hy.get
    cases ix with
    | tup a1 a2 =>
      cases iy with
      | tup b1 b2 =>
        rw [e1] at a2
        rw [e2] at b2
        have z1 := IsAll.li ns a2
        have z2 := IsAll.li ms b2
        subst z1 z2
        exact .inr ⟨_, _, ns, ms, rfl, rfl, Evl.ex_t f.fh a1, Evl.ex_t f.fh b1, lend f q (.bl _) hy⟩
  | _ => exact two_ h
def dLe : D2 := fun x y M k => asInt x fun i => asInt y fun j => k (.bl (decide (i ≤ j))) M
def dGt : D2 := fun x y M k => asInt x fun i => asInt y fun j => k (.bl (decide (j < i))) M
def dGe : D2 := fun x y M k => asInt x fun i => asInt y fun j => k (.bl (decide (j ≤ i))) M
theorem s_le : Sd2 K qLe dLe := fun G F H M x y v u k Q f ix iy h q => by
  obtain ⟨i, rfl, rfl, h⟩ := asInt_ok ix h
  obtain ⟨j, rfl, rfl, h⟩ := asInt_ok iy h
  exact ⟨i, j, rfl, rfl, lend f q (.bl _) h⟩
theorem s_gt : Sd2 K qGt dGt := fun G F H M x y v u k Q f ix iy h q => by
  obtain ⟨i, rfl, rfl, h⟩ := asInt_ok ix h
  obtain ⟨j, rfl, rfl, h⟩ := asInt_ok iy h
  exact ⟨i, j, rfl, rfl, lend f q (.bl _) h⟩
theorem s_ge : Sd2 K qGe dGe := fun G F H M x y v u k Q f ix iy h q => by
  obtain ⟨i, rfl, rfl, h⟩ := asInt_ok ix h
  obtain ⟨j, rfl, rfl, h⟩ := asInt_ok iy h
  exact ⟨i, j, rfl, rfl, lend f q (.bl _) h⟩
/-- == of data -/
@[irreducible] def eqG (x y : D) (M : Mem) (k : Bool → Prop) : Prop := ∃ p q, pyM M x = some p ∧ pyM M y = some q ∧ SeqAt.shaped p = true ∧ SeqAt.shaped q = true ∧ k (PyData.eqv p q)
theorem eqG.get {x y : D} {M : Mem} {k : Bool → Prop} (h : eqG x y M k) : ∃ p q, pyM M x = some p ∧ pyM M y = some q ∧ SeqAt.shaped p = true ∧ SeqAt.shaped q = true ∧ k (PyData.eqv p q) := by unfold eqG at h; exact h
theorem eq_of {x y : D} {M : Mem} {k : Bool → Prop} {p q : PyData} {n m : Nat} (hx : Pk n x p) (hy : Pk m y q) (hn : n ≤ 64) (hm : m ≤ 64) (h : k (PyData.eqv p q)) : eqG x y M k := by
  have e : ∀ {x : D} {p : PyData}, py x = some p → pyM M x = some p := fun {x p} e => by
    cases x with
    | ref a => simp [py] at e
    | _ => exact e
  unfold eqG
  exact ⟨p, q, e hx.py, e hy.py, hx.sh hn, hy.sh hm, h⟩
theorem eq_ref {a : Addr} {xs : List D} {y : D} {M : Mem} {k : Bool → Prop} {p q : PyData} {n m : Nat} (ea : M a = some (.lst xs)) (hx : Pk n (.lst xs) p) (hy : Pk m y q) (hn : n ≤ 64) (hm : m ≤ 64) (h : k (PyData.eqv p q)) : eqG (.ref a) y M k := by
  have e : ∀ {x : D} {p : PyData}, py x = some p → pyM M x = some p := fun {x p} e => by
    cases x with
    | ref a => simp [py] at e
    | _ => exact e
  unfold eqG
  refine ⟨p, q, ?_, e hy.py, hx.sh hn, hy.sh hm, h⟩
  simp only [pyM, ea]
  exact hx.py
theorem eq_tt {l m : List Int} {M : Mem} {k : Bool → Prop} (h : k (decide (l = m))) : eqG (.tup (Li l)) (.tup (Li m)) M k := eq_of (pk_tup (n := 0) (pka_ints l)) (pk_tup (n := 0) (pka_ints m)) (by omega) (by omega) (by
  show k (PyData.eqvAll _ _)
  rw [eqv_ints]; exact h)
theorem eq_ll {l m : List Int} {M : Mem} {k : Bool → Prop} (h : k (decide (l = m))) : eqG (.lst (Li l)) (.lst (Li m)) M k := eq_of (pk_lst (n := 0) (pka_ints l)) (pk_lst (n := 0) (pka_ints m)) (by omega) (by omega) (by
  show k (PyData.eqvAll _ _)
  rw [eqv_ints]; exact h)
theorem eq_lref {a : Addr} {l m : List Int} {M : Mem} {k : Bool → Prop} (ea : M a = some (.lst (Li l))) (h : k (decide (l = m))) : eqG (.ref a) (.lst (Li m)) M k := eq_ref ea (pk_lst (n := 0) (pka_ints l)) (pk_lst (n := 0) (pka_ints m)) (by omega) (by omega) (by
  show k (PyData.eqvAll _ _)
  rw [eqv_ints]; exact h)
theorem eq_nonint {j : Int} {M : Mem} {k : Bool → Prop} (h : k false) : eqG .non (.int j) M k := eq_of (n := 0) (m := 0) pk_non pk_int (by omega) (by omega) (by simpa [PyData.eqv] using h)
theorem eq_intnon {j : Int} {M : Mem} {k : Bool → Prop} (h : k false) : eqG (.int j) .non M k := eq_of (n := 0) (m := 0) pk_int pk_non (by omega) (by omega) (by simpa [PyData.eqv] using h)
theorem eq_nonnon {M : Mem} {k : Bool → Prop} (h : k true) : eqG .non .non M k := eq_of (n := 0) (m := 0) pk_non pk_non (by omega) (by omega) (by simpa [PyData.eqv] using h)
theorem eq_blbl {a b : Bool} {M : Mem} {k : Bool → Prop} (h : k (a == b)) : eqG (.bl a) (.bl b) M k := eq_of (n := 0) (m := 0) pk_bl pk_bl (by omega) (by omega) (by simpa [PyData.eqv] using h)
def eqD (x y : D) (M : Mem) (k : Bool → Prop) : Prop := match x, y with
  | .int i, .int j => k (decide (i = j))
  | .str i, .str j => k (decide (i = j))
  | x, y => eqG x y M k
def dEq : D2 := fun x y M k => eqD x y M fun b => k (.bl b) M
def dNe : D2 := fun x y M k => eqD x y M fun b => k (.bl (!b)) M
theorem s_eq : Sd2 K (qEq K) dEq := fun G F H M x y v u k Q f ix iy h q => by
  unfold dEq eqD at h
  split at h
  · cases ix; cases iy; exact .inl ⟨rfl, by rw [dec_intV]; exact lend f q (.bl _) h⟩
  · cases ix; cases iy; exact .inl ⟨rfl, by rw [dec_strV]; exact lend f q (.bl _) h⟩
  · obtain ⟨p, p', h1, h2, h3, h4, h⟩ := h.get
    exact .inr ⟨p, p', dp_of f ix h1, dp_of f iy h2, h3, h4, lend f q (.bl _) h⟩
theorem s_ne : Sd2 K (qNe K) dNe := fun G F H M x y v u k Q f ix iy h q => by
  unfold dNe eqD at h
  split at h
  · cases ix; cases iy; exact .inl ⟨rfl, by rw [dec_intV]; exact lend f q (.bl _) h⟩
  · cases ix; cases iy; exact .inl ⟨rfl, by rw [dec_strV]; exact lend f q (.bl _) h⟩
  · obtain ⟨p, p', h1, h2, h3, h4, h⟩ := h.get
    exact .inr ⟨p, p', dp_of f ix h1, dp_of f iy h2, h3, h4, lend f q (.bl _) h⟩
def isNon : D → Bool
  | .non => true
  | _ => false
def asNon : D → Prop → Prop
  | .non, P => P
  | _, _ => False
theorem non_ok {x : D} {v : V} (i : Is K F v x) : decide (v = V.non) = isNon x := by cases i <;> rfl
def dIs : D2 := fun x y M k => asNon y (k (.bl (isNon x)) M)
def dIsn : D2 := fun x y M k => asNon y (k (.bl (!isNon x)) M)
theorem s_is : Sd2 K qIs dIs := fun G F H M x y v u k Q f ix iy h q => by
  cases iy with
  | non => exact ⟨rfl, by rw [non_ok ix]; exact lend f q (.bl _) h⟩
  | _ => cases h
theorem s_isn : Sd2 K qIsn dIsn := fun G F H M x y v u k Q f ix iy h q => by
  cases iy with
  | non => exact ⟨rfl, by rw [non_ok ix]; exact lend f q (.bl _) h⟩
  | _ => cases h
theorem atI_map {vs : List V} {xs : List D} {x : D} (h : IsAll K F vs xs) {i : Int} (e : atI xs i = some x) : ∃ v, atI vs i = some v ∧ Is K F v x := by
  unfold atI at e ⊢
  obtain ⟨j, e1, e2⟩ := Option.bind_eq_some_iff.mp e
  obtain ⟨v, h1, h2⟩ := h.get e2
  exact ⟨v, by rw [h.len, e1]; exact h1, h2⟩
@[irreducible] def ixD (xs : List D) (i : Int) (k : D → Prop) : Prop := ∃ d, atI xs i = some d ∧ k d
theorem ixD.get {xs : List D} {i : Int} {k : D → Prop} (h : ixD xs i k) : ∃ d, atI xs i = some d ∧ k d := by unfold ixD at h; exact h
theorem ix_of {xs : List D} {i : Int} {k : D → Prop} {d : D} (e : atI xs i = some d) (h : k d) : ixD xs i k := by unfold ixD; exact ⟨d, e, h⟩
@[irreducible] def ixS (z : Str) (i : Int) (k : D → Prop) : Prop := z.length ≤ sizeLine ∧ ∃ c, atI z.cps.toList i = some c ∧ k (.str ⟨#[c]⟩)
theorem ixS.get {z : Str} {i : Int} {k : D → Prop} (h : ixS z i k) : z.length ≤ sizeLine ∧ ∃ c, atI z.cps.toList i = some c ∧ k (.str ⟨#[c]⟩) := by unfold ixS at h; exact h
theorem ixs_of {z : Str} {i : Int} {k : D → Prop} {c : Nat} (hz : z.length ≤ 16777216) (e : atI z.cps.toList i = some c) (h : k (.str ⟨#[c]⟩)) : ixS z i k := by unfold ixS; exact ⟨by rw [sizeLine_eq]; exact hz, c, e, h⟩
def dIx : D2 := fun x y M k => asInt y fun i => match x with
  | .str z => ixS z i fun d => k d M
  | x => asS x M fun xs => ixD xs i fun d => k d M
theorem s_ix : Sd2 K (rIx K) dIx := fun G F H M x y v u k Q f ix iy h q => by
  obtain ⟨i, rfl, rfl, h⟩ := asInt_ok iy h
  have seqs : (asS x M fun xs => ixD xs i fun d => k d M) → rIx K v (.int i) H Q := fun h => by
    obtain ⟨a, vs, xs, rfl, i1, r1, h⟩ := asS_ok f ix h
    obtain ⟨d, e, h⟩ := h.get
    obtain ⟨u, e1, iu⟩ := atI_map i1 e
    rcases r1 with r1 | r1
    · exact .inl ⟨a, vs, i, u, rfl, rfl, r1, e1, lend f q iu h⟩
    · exact .inr (.inl ⟨a, vs, i, u, rfl, rfl, r1, e1, lend f q iu h⟩)
  cases x with
  | str z =>
    cases ix
    obtain ⟨hl, c, e, h⟩ := ixS.get h
    exact .inr (.inr ⟨z, i, c, rfl, rfl, hl, e, lend f q (.str _) h⟩)
  | _ => exact seqs h
theorem inV_ints {i : Int} : ∀ l : List Int, inV (.int i) (l.map V.int) = decide (i ∈ l)
  | [] => by simp [inV]
  | j :: l => by
    have z := inV_ints (i := i) l
    unfold inV at z ⊢
    rw [List.map_cons, List.any_cons, z]
    show ((j == i) || decide (i ∈ l)) = decide (i ∈ j :: l)
    by_cases h : j = i
    · subst h; simp
    · have : i ≠ j := fun e => h e.symm
      simp [h, this]
theorem flat_ints : ∀ l : List Int, (l.map V.int).all flatV = true
  | [] => rfl
  | _ :: l => flat_ints l
theorem inV_strs {i : Str} : ∀ l : List Str, inV (.str i) (l.map V.str) = decide (i ∈ l)
  | [] => by simp [inV]
  | j :: l => by
    have z := inV_strs (i := i) l
    unfold inV at z ⊢
    rw [List.map_cons, List.any_cons, z]
    show ((j == i) || decide (i ∈ l)) = decide (i ∈ j :: l)
    by_cases h : j = i
    · subst h; simp
    · have : i ≠ j := fun e => h e.symm
      have h' : (j == i) = false := by simpa using h
      rw [h']
      simp [this]
theorem flat_strs : ∀ l : List Str, (l.map V.str).all flatV = true
  | [] => rfl
  | _ :: l => flat_strs l
/-- x in y -/
@[irreducible] def signD (z : Str) (k : Nat → Prop) : Prop := ∃ c, z = ⟨#[c]⟩ ∧ k c
theorem signD.get {z : Str} {k : Nat → Prop} (h : signD z k) : ∃ c, z = ⟨#[c]⟩ ∧ k c := by unfold signD at h; exact h
theorem sign_of {c : Nat} {k : Nat → Prop} (h : k c) : signD ⟨#[c]⟩ k := by unfold signD; exact ⟨c, rfl, h⟩
@[irreducible] def inG (x y : D) (M : Mem) (k : Bool → Prop) : Prop := ∃ d ds c, pyM M x = some d ∧ pyM M y = some c ∧ (c = .list ds ∨ c = .tuple ds) ∧ SeqAt.shaped d = true ∧ SeqAt.shaped c = true ∧ k (ds.any fun z => PyData.eqv z d)
theorem inG.get {x y : D} {M : Mem} {k : Bool → Prop} (h : inG x y M k) : ∃ d ds c, pyM M x = some d ∧ pyM M y = some c ∧ (c = .list ds ∨ c = .tuple ds) ∧ SeqAt.shaped d = true ∧ SeqAt.shaped c = true ∧ k (ds.any fun z => PyData.eqv z d) := by unfold inG at h; exact h
def inD (x y : D) (M : Mem) (k : Bool → Prop) : Prop := match x with
  | .int i => asS y M fun ys => intsD ys fun l => k (decide (i ∈ l))
  | .str z => match y with
    | .str w => signD z fun c => k (decide (c ∈ w.cps.toList))
    | y => asS y M fun ys => strsD ys fun l => k (decide (z ∈ l))
  | x => inG x y M k
def dIn : D2 := fun x y M k => inD x y M fun b => k (.bl b) M
def dNin : D2 := fun x y M k => inD x y M fun b => k (.bl (!b)) M
theorem s_in : Sd2 K (qIn K) dIn := fun G F H M x y v u k Q f ix iy h q => by
  have gen : (inG x y M fun b => k (.bl (b)) M) → qIn K v u H Q := fun h => by
    obtain ⟨d, ds, c, h1, h2, hc, h3, h4, h⟩ := h.get
    rcases hc with rfl | rfl
    · exact .inr (.inr (.inr (.inl ⟨d, ds, dp_of f ix h1, dp_of f iy h2, h3, h4, lend f q (.bl _) h⟩)))
    · exact .inr (.inr (.inr (.inr ⟨d, ds, dp_of f ix h1, dp_of f iy h2, h3, h4, lend f q (.bl _) h⟩)))
  cases x with
  | int i =>
    cases ix
    obtain ⟨a, vs, xs, rfl, i1, r1, h⟩ := asS_ok f iy h
    have h2 := h.get; clear h; obtain ⟨l, rfl, h⟩ := h2
    have e := IsAll.li l i1
    subst e
    exact .inr (.inl ⟨a, _, rfl, r1, rfl, flat_ints l, by
      show Q (.bl (inV (.int i) (l.map V.int))) H
      rw [inV_ints]; exact lend f q (.bl _) h⟩)
  | str z =>
    cases ix
    have seqs : (asS y M fun ys => strsD ys fun l => k (.bl (decide (z ∈ l))) M) → qIn K (.str z) u H Q := fun h => by
      obtain ⟨a, vs, xs, rfl, i1, r1, h⟩ := asS_ok f iy h
      have h2 := h.get; clear h; obtain ⟨l, rfl, h⟩ := h2
      have e := IsAll.ls l i1
      subst e
      exact .inr (.inl ⟨a, _, rfl, r1, rfl, flat_strs l, by
        show Q (.bl (inV (.str z) (l.map V.str))) H
        rw [inV_strs]; exact lend f q (.bl _) h⟩)
    cases y with
    | str w =>
      cases iy
      have h2 := signD.get h; clear h; obtain ⟨c, rfl, h⟩ := h2
      exact .inl ⟨c, w, rfl, rfl, lend f q (.bl _) h⟩
    | _ => exact seqs h
  | _ => exact gen h
theorem s_nin : Sd2 K (qNin K) dNin := fun G F H M x y v u k Q f ix iy h q => by
  have gen : (inG x y M fun b => k (.bl (!b)) M) → qNin K v u H Q := fun h => by
    obtain ⟨d, ds, c, h1, h2, hc, h3, h4, h⟩ := h.get
    rcases hc with rfl | rfl
    · exact .inr (.inr (.inr (.inl ⟨d, ds, dp_of f ix h1, dp_of f iy h2, h3, h4, lend f q (.bl _) h⟩)))
    · exact .inr (.inr (.inr (.inr ⟨d, ds, dp_of f ix h1, dp_of f iy h2, h3, h4, lend f q (.bl _) h⟩)))
  cases x with
  | int i =>
    cases ix
    obtain ⟨a, vs, xs, rfl, i1, r1, h⟩ := asS_ok f iy h
    have h2 := h.get; clear h; obtain ⟨l, rfl, h⟩ := h2
    have e := IsAll.li l i1
    subst e
    exact .inr (.inl ⟨a, _, rfl, r1, rfl, flat_ints l, by
      show Q (.bl (!inV (.int i) (l.map V.int))) H
      rw [inV_ints]; exact lend f q (.bl _) h⟩)
  | str z =>
    cases ix
    have seqs : (asS y M fun ys => strsD ys fun l => k (.bl (!decide (z ∈ l))) M) → qNin K (.str z) u H Q := fun h => by
      obtain ⟨a, vs, xs, rfl, i1, r1, h⟩ := asS_ok f iy h
      have h2 := h.get; clear h; obtain ⟨l, rfl, h⟩ := h2
      have e := IsAll.ls l i1
      subst e
      exact .inr (.inl ⟨a, _, rfl, r1, rfl, flat_strs l, by
        show Q (.bl (!inV (.str z) (l.map V.str))) H
        rw [inV_strs]; exact lend f q (.bl _) h⟩)
    cases y with
    | str w =>
      cases iy
      have h2 := signD.get h; clear h; obtain ⟨c, rfl, h⟩ := h2
      exact .inl ⟨c, w, rfl, rfl, lend f q (.bl _) h⟩
    | _ => exact seqs h
  | _ => exact gen h
def dNeg : D1 := fun x M k => asInt x fun i => k (.int (-i)) M
theorem s_neg : Sd1 K (rU fun i => .int (-i)) dNeg := fun G F H M x v k Q f ix h q => by
  obtain ⟨i, rfl, rfl, h⟩ := asInt_ok ix h
  exact ⟨i, rfl, lend f q (.int _) h⟩
/-! ### built-ins -/
def b1 (d : D → Mem → (D → Mem → Prop) → Prop) : DA := fun xs M k => match xs with
  | [x] => d x M k
  | _ => False
theorem sb1 {r : List V → Hp → VK → Prop} {d : D1} (h : ∀ G F H M x v k Q, Fr K G F H M → Is K F v x → d x M k → Po K G F k Q → r [v] H Q) : SdB K r (b1 d) := fun G F H M xs vs k Q f i hd q => by
  cases i with
  | nil => cases hd
  | cons a b => cases b with
    | nil => exact h G F H M _ _ k Q f a hd q
    | cons _ _ => cases hd
def dLen : D1 := fun x M k => match x with
  | .str z => Sz z.length (k (.int (z.length : Nat)) M)
  | x => asS x M fun xs => k (.int (xs.length : Nat)) M
theorem s_len : SdB K (qLen K) (b1 dLen) := sb1 fun G F H M x v k Q f ix h q => by
  have seqs : (asS x M fun xs => k (.int (xs.length : Nat)) M) → qLen K [v] H Q := fun h => by
    obtain ⟨a, vs, xs, rfl, i1, r1, h⟩ := asS_ok f ix h
    refine ⟨_, vs.length, rfl, ?_, ?_⟩
    · rcases r1 with r1 | r1
      · exact .inl ⟨vs, r1, rfl⟩
      · exact .inr ⟨vs, r1, rfl⟩
    · rw [i1.len]; exact lend f q (.int _) h
  cases x with
  | str z => cases ix; exact ⟨_, z.length, rfl, ⟨(Sz.get h).1, rfl⟩, lend f q (.int _) (Sz.get h).2⟩
  | _ => exact seqs h
@[irreducible] def readD (z : Str) (k : Int → Prop) : Prop := ∃ n, PySem.intText? z = some n ∧ z.length ≤ 640 ∧ k n
theorem readD.get {z : Str} {k : Int → Prop} (h : readD z k) : ∃ n, PySem.intText? z = some n ∧ z.length ≤ 640 ∧ k n := by unfold readD at h; exact h
theorem read_of {z : Str} {k : Int → Prop} {n : Int} (e : PySem.intText? z = some n) (hz : z.length ≤ 640) (h : k n) : readD z k := by unfold readD; exact ⟨n, e, hz, h⟩
@[irreducible] def strD (i : Int) (k : Str → Prop) : Prop := i.natAbs.log2 < 1920 ∧ k (toString i)
theorem strD.get {i : Int} {k : Str → Prop} (h : strD i k) : i.natAbs.log2 < 1920 ∧ k (toString i) := by unfold strD at h; exact h
theorem str_of {i : Int} {k : Str → Prop} (h0 : i.natAbs < 10 ^ 100) (h : k (toString i)) : strD i k := by
  unfold strD
  refine ⟨Nat.lt_of_lt_of_le (big_log (n := 350) (by decide) (Nat.lt_of_lt_of_le h0 (by decide +kernel))) (by decide), h⟩
def dInt : D1 := fun x M k => match x with
  | .int i => k (.int i) M
  | .bl b => k (.int (if b then 1 else 0)) M
  | .str z => readD z fun n => k (.int n) M
  | _ => False
theorem s_int : SdB K qInt (b1 dInt) := sb1 fun G F H M x v k Q f ix h q => by
  cases ix with
  | int i => exact .inl (.inl ⟨i, rfl, lend f q (.int _) h⟩)
  | bl b => exact .inl (.inr ⟨b, rfl, lend f q (.int _) h⟩)
  | str z => obtain ⟨n, h1, h2, h⟩ := readD.get h; exact .inr ⟨z, n, rfl, h1, h2, lend f q (.int _) h⟩
  | _ => cases h
def dStr : D1 := fun x M k => asInt x fun i => strD i fun z => k (.str z) M
theorem s_str : SdB K qStr (b1 dStr) := sb1 fun G F H M x v k Q f ix h q => by
  obtain ⟨i, rfl, rfl, h⟩ := asInt_ok ix h
  obtain ⟨h1, h⟩ := h.get
  exact ⟨i, rfl, h1, lend f q (.str _) h⟩
def dAbs : D1 := fun x M k => asInt x fun i => k (.int (i.natAbs : Nat)) M
theorem s_abs : SdB K qAbs (b1 dAbs) := sb1 fun G F H M x v k Q f ix h q => by
  obtain ⟨i, rfl, rfl, h⟩ := asInt_ok ix h
  have e : (if i < 0 then -i else i) = (i.natAbs : Int) := by split <;> omega
  exact ⟨i, rfl, by rw [e]; exact lend f q (.int _) h⟩
def dBool : D1 := fun x M k => match x with
  | .int i => k (.bl (i != 0)) M
  | .bl b => k (.bl b) M
  | _ => False
theorem s_bool : SdB K qBool (b1 dBool) := sb1 fun G F H M x v k Q f ix h q => by
  cases ix with
  | int i => exact .inl ⟨i, rfl, lend f q (.bl _) h⟩
  | bl b => exact .inr ⟨b, rfl, lend f q (.bl _) h⟩
  | _ => cases h
def dSum : D1 := fun x M k => asLL x M fun xs => intsD xs fun l => k (.int l.sum) M
theorem s_sum : SdB K (rSum K) (b1 dSum) := sb1 fun G F H M x v k Q f ix h q => by
  obtain ⟨a, vs, xs, rfl, i1, r1, h⟩ := asLL_ok f ix h
  have h2 := h.get; clear h; obtain ⟨l, rfl, h⟩ := h2
  have e := IsAll.li l i1
  subst e
  exact ⟨a, l, rfl, Evl.sq_of r1, lend f q (.int _) h⟩
def dAll : D1 := fun x M k => asLL x M fun xs => blsD xs fun l => k (.bl (l.all id)) M
def dAny : D1 := fun x M k => asLL x M fun xs => blsD xs fun l => k (.bl (l.any id)) M
theorem s_all : SdB K (rAll K) (b1 dAll) := sb1 fun G F H M x v k Q f ix h q => by
  obtain ⟨a, vs, xs, rfl, i1, r1, h⟩ := asLL_ok f ix h
  have h2 := h.get; clear h; obtain ⟨l, rfl, h⟩ := h2
  have e := IsAll.lb l i1
  subst e
  exact ⟨a, l, rfl, Evl.sq_of r1, lend f q (.bl _) h⟩
theorem s_any : SdB K (rAny K) (b1 dAny) := sb1 fun G F H M x v k Q f ix h q => by
  obtain ⟨a, vs, xs, rfl, i1, r1, h⟩ := asLL_ok f ix h
  have h2 := h.get; clear h; obtain ⟨l, rfl, h⟩ := h2
  have e := IsAll.lb l i1
  subst e
  exact ⟨a, l, rfl, Evl.sq_of r1, lend f q (.bl _) h⟩
/-- the greatest, the least of some ints -/
@[irreducible] def isMax (l : List Int) (k : Int → Prop) : Prop := 0 < l.length ∧ ∀ m, m ∈ l → (∀ y, y ∈ l → y ≤ m) → k m
@[irreducible] def isMin (l : List Int) (k : Int → Prop) : Prop := 0 < l.length ∧ ∀ m, m ∈ l → (∀ y, y ∈ l → m ≤ y) → k m
theorem isMax.get {l : List Int} {k : Int → Prop} (h : isMax l k) : 0 < l.length ∧ ∀ m, m ∈ l → (∀ y, y ∈ l → y ≤ m) → k m := by unfold isMax at h; exact h
theorem isMin.get {l : List Int} {k : Int → Prop} (h : isMin l k) : 0 < l.length ∧ ∀ m, m ∈ l → (∀ y, y ∈ l → m ≤ y) → k m := by unfold isMin at h; exact h
theorem max_of {l : List Int} {k : Int → Prop} (h0 : 0 < l.length) (h : ∀ m, m ∈ l → (∀ y, y ∈ l → y ≤ m) → k m) : isMax l k := by unfold isMax; exact ⟨h0, h⟩
theorem min_of {l : List Int} {k : Int → Prop} (h0 : 0 < l.length) (h : ∀ m, m ∈ l → (∀ y, y ∈ l → m ≤ y) → k m) : isMin l k := by unfold isMin; exact ⟨h0, h⟩
def dMax : DA := fun xs M k => match xs with
  | [x, y] => asInt x fun i => asInt y fun j => k (.int (max i j)) M
  | [x] => asLL x M fun xs => intsD xs fun l => isMax l fun m => k (.int m) M
  | _ => False
def dMin : DA := fun xs M k => match xs with
  | [x, y] => asInt x fun i => asInt y fun j => k (.int (min i j)) M
  | [x] => asLL x M fun xs => intsD xs fun l => isMin l fun m => k (.int m) M
  | _ => False
theorem s_max : SdB K (qMx K) dMax := fun G F H M xs vs k Q f i h q => by
  unfold dMax at h
  split at h
  · cases i with
    | cons a b => cases b with
      | cons b c =>
        cases c
        obtain ⟨i, rfl, rfl, h⟩ := asInt_ok a h
        obtain ⟨j, rfl, rfl, h⟩ := asInt_ok b h
        have e : (if j > i then j else i) = max i j := by split <;> omega
        exact .inl ⟨i, j, rfl, by rw [e]; exact lend f q (.int _) h⟩
  · cases i with
    | cons a b =>
      cases b
      obtain ⟨p, vs, xs, rfl, i1, r1, h⟩ := asLL_ok f a h
      have h2 := h.get; clear h; obtain ⟨l, rfl, h⟩ := h2
      obtain ⟨h0, h⟩ := h.get
      have e := IsAll.li l i1
      subst e
      exact .inr ⟨p, l, rfl, Evl.sq_of r1, h0, fun m h1 h2 => lend f q (.int _) (h m h1 h2)⟩
  · exact h.elim
theorem s_min : SdB K (qMn K) dMin := fun G F H M xs vs k Q f i h q => by
  unfold dMin at h
  split at h
  · cases i with
    | cons a b => cases b with
      | cons b c =>
        cases c
        obtain ⟨i, rfl, rfl, h⟩ := asInt_ok a h
        obtain ⟨j, rfl, rfl, h⟩ := asInt_ok b h
        have e : (if j < i then j else i) = min i j := by split <;> omega
        exact .inl ⟨i, j, rfl, by rw [e]; exact lend f q (.int _) h⟩
  · cases i with
    | cons a b =>
      cases b
      obtain ⟨p, vs, xs, rfl, i1, r1, h⟩ := asLL_ok f a h
      have h2 := h.get; clear h; obtain ⟨l, rfl, h⟩ := h2
      obtain ⟨h0, h⟩ := h.get
      have e := IsAll.li l i1
      subst e
      exact .inr ⟨p, l, rfl, Evl.sq_of r1, h0, fun m h1 h2 => lend f q (.int _) (h m h1 h2)⟩
  · exact h.elim
/-- tuple(x), list(x) -/
def dTuple : D1 := fun x M k => asS x M fun xs => k (.tup xs) M
theorem s_tuple : SdB K (qTup K) (b1 dTuple) := sb1 fun G F H M x v k Q f ix h q => by
  cases x with
  | tup xs =>
    obtain ⟨a, vs, xs', rfl, i1, e1, _, ex⟩ := asT_ok (k := fun _ => True) f ix trivial
    cases ex
    exact ⟨a, vs, rfl, .inr ⟨e1, lend f q ix h⟩⟩
  | lst xs =>
    cases ix with
    | lst h1 h2 => exact ⟨_, _, rfl, .inl ⟨Evl.sq_of (f.fh _ _ h1), fun p n => lendT f q h2 h n⟩⟩
  | ref a =>
    cases ix
    obtain ⟨xs, e, h⟩ := cellL.get h
    obtain ⟨_, vs, q1, q2⟩ := f.mc a _ e
    exact ⟨_, _, rfl, .inl ⟨Evl.sq_of q1, fun p n => lendT f q q2 h n⟩⟩
  | _ => cases h
def dList (m : Bool) : D1 := fun x M k => asS x M fun xs => mkL m xs M k
theorem s_list {m : Bool} : SdB K (qLst K) (b1 (dList m)) := sb1 fun G F H M x v k Q f ix h q => by
  obtain ⟨a, vs, xs, rfl, i1, r1, h⟩ := asS_ok f ix h
  exact ⟨a, vs, rfl, r1, fun p n => mkL_ok f i1 h q n⟩
/-- sorted(xs) -/
@[irreducible] def sortI (l : List Int) (k : List Int → Prop) : Prop := l.length < 64 ∧ ∀ l' : List Int, l'.Perm l → l'.Pairwise (· ≤ ·) → k l'
@[irreducible] def sortS (l : List Str) (k : List Str → Prop) : Prop := l.length < 64 ∧ ∀ l' : List Str, l'.Perm l → sortedS l' = true → k l'
theorem sortI.get {l : List Int} {k : List Int → Prop} (h : sortI l k) : l.length < 64 ∧ ∀ l' : List Int, l'.Perm l → l'.Pairwise (· ≤ ·) → k l' := by unfold sortI at h; exact h
theorem sortS.get {l : List Str} {k : List Str → Prop} (h : sortS l k) : l.length < 64 ∧ ∀ l' : List Str, l'.Perm l → sortedS l' = true → k l' := by unfold sortS at h; exact h
theorem sort_of {l : List Int} {k : List Int → Prop} (h0 : l.length < 64) (h : ∀ l' : List Int, l'.Perm l → l'.Pairwise (· ≤ ·) → k l') : sortI l k := by unfold sortI; exact ⟨h0, h⟩
theorem sorts_of {l : List Str} {k : List Str → Prop} (h0 : l.length < 64) (h : ∀ l' : List Str, l'.Perm l → sortedS l' = true → k l') : sortS l k := by unfold sortS; exact ⟨h0, h⟩
def dSorted (m : Bool) : D1 := fun x M k => asLL x M fun xs => intsD xs fun l => sortI l fun l' => mkL m (Li l') M k
def dSortedS (m : Bool) : D1 := fun x M k => asLL x M fun xs => strsD xs fun l => sortS l fun l' => mkL m (Ls l') M k
theorem s_sorted {m : Bool} : SdB K (rSorted K) (b1 (dSorted m)) := sb1 fun G F H M x v k Q f ix h q => by
  obtain ⟨a, vs, xs, rfl, i1, r1, h⟩ := asLL_ok f ix h
  have h2 := h.get; clear h; obtain ⟨l, rfl, h⟩ := h2
  obtain ⟨hl, h⟩ := h.get
  have e := IsAll.li l i1
  subst e
  exact ⟨a, l, rfl, Evl.sq_of r1, hl, fun l' p h1 h2 n => mkL_ok f (IsAll.of_li l') (h l' h1 h2) q n⟩
theorem s_sortedS {m : Bool} : SdB K (rSortedS K) (b1 (dSortedS m)) := sb1 fun G F H M x v k Q f ix h q => by
  obtain ⟨a, vs, xs, rfl, i1, r1, h⟩ := asLL_ok f ix h
  have h2 := h.get; clear h; obtain ⟨l, rfl, h⟩ := h2
  obtain ⟨hl, h⟩ := h.get
  have e := IsAll.ls l i1
  subst e
  exact ⟨a, l, rfl, Evl.sq_of r1, hl, fun l' p h1 h2 n => mkL_ok f (IsAll.of_ls l') (h l' h1 h2) q n⟩
/-! ### slices -/
def cutD {α : Type} (xs : List α) (lo hi : Option Int) : List α := (xs.drop (HT.sIx xs.length 0 lo)).take (HT.sIx xs.length xs.length hi - HT.sIx xs.length 0 lo)
theorem cut_is {vs : List V} {xs : List D} (h : IsAll K F vs xs) (lo hi : Option Int) : IsAll K F (cutV vs lo hi) (cutD xs lo hi) := by
  unfold cutV cutD
  rw [h.len]
  exact (h.drop _).take _
def slD (m : Bool) (x : D) (lo hi : Option Int) (M : Mem) (k : D → Mem → Prop) : Prop := match x with
  | .tup xs => k (.tup (cutD xs lo hi)) M
  | .str z => Sz z.length (k (.str (cutS z lo hi)) M)
  | .scr l => mkL m (Li (cutD l lo hi)) M k
  | x => asLL x M fun xs => mkL m (cutD xs lo hi) M k
def wSl (m : Bool) (we : W) (wl wh : WO) : W := fun ρ M k E => we ρ M (fun x M1 => wl ρ M1 (fun lo M2 => wh ρ M2 (fun hi M3 => slD m x lo hi M3 k) E) E) E
end
section
variable {K : Frag} {L : XL}
theorem cutD_map {α β : Type} (g : α → β) (l : List α) (lo hi : Option Int) : cutD (l.map g) lo hi = (cutD l lo hi).map g := by
  unfold cutD
  rw [List.length_map, List.map_take, List.map_drop]
theorem sd_sl {m : Bool} {te : TE} {tl th : TO} {we : W} {wl wh : WO} (he : Sd K L te we) (hl : SdO K L tl wl) (hh : SdO K L th wh) : Sd K L (tSl (qSl K) te tl th) (wSl m we wl wh) := fun G F H σ ρ M k E Q f s l h q =>
  he G F H σ ρ M _ E _ f s l h fun F1 H1 v x M1 h1 e1 f1 i1 => hl G F1 H1 σ ρ M1 _ E _ f1 (s.up e1) (L.mono l e1) h1 fun F2 H2 lo M2 h2 e2 f2 =>
  hh G F2 H2 σ ρ M2 _ E _ f2 (s.up (e1.trans e2)) (L.mono l (e1.trans e2)) h2 fun F3 H3 hi M3 h3 e3 f3 => by
    have i3 := i1.up (e2.trans e3)
    have q3 := q.up ((e1.trans e2).trans e3)
    have lists : (asLL x M3 fun xs => mkL m (cutD xs lo hi) M3 k) → qSl K v lo hi H3 Q := fun h => by
      obtain ⟨a, vs, xs, rfl, j1, r1, h⟩ := asLL_ok f3 i3 h
      exact .inl ⟨a, vs, rfl, Evl.sq_of r1, fun p n => mkL_ok f3 (cut_is j1 lo hi) h q3 n⟩
    cases x with
    | tup xs =>
      cases i3 with
      | tup a1 a2 =>
        refine .inr (.inl ⟨_, _, rfl, Evl.ex_t f3.fh a1, fun hw => ?_, fun hw p n => lendT f3 q3 (cut_is a2 lo hi) h3 n⟩)
        have e : cutD xs lo hi = xs := by
          unfold cutD
          rw [← a2.len, hw.1, hw.2]
          simp [a2.len]
        have h3 : k (.tup (cutD xs lo hi)) M3 := h3
        rw [e] at h3
        exact lend f3 q3 (.tup a1 a2) h3
    | str z => cases i3; exact .inr (.inr ⟨z, rfl, (Sz.get h3).1, lend f3 q3 (.str _) (Sz.get h3).2⟩)
    | scr xs =>
      cases i3 with
      | scr a1 =>
        refine .inl ⟨_, _, rfl, Evl.ex_l f3.fh a1, fun p n => mkL_ok f3 ?_ h3 q3 n⟩
        have := cut_is (K := K) (F := F3) (IsAll.of_li xs) lo hi
        rw [cutD_map] at this
        exact this
    | _ => exact lists h3
end
end Px

set_option Elab.async false
set_option linter.all false
set_option maxRecDepth 100000
set_option maxHeartbeats 4000000
/-! Methods, own special methods, isinstance. -/
namespace Px
open PySem PySem.Spec PyProof.Rows L2 Rl RZ RT
open Evl (Ex)
section
variable {K : Frag} {L : XL} {G F H : Hp} {M : Mem}
abbrev DM := D → List D → Mem → (D → Mem → Prop) → Prop
def SdM (K : Frag) (r : V → List V → Hp → VK → Prop) (d : DM) : Prop := ∀ G F H M x v xs vs k Q, Fr K G F H M → Is K F v x → IsAll K F vs xs → d x xs M k → Po K G F k Q → r v vs H Q
def tyL (x : D) (M : Mem) (P : Prop) : Prop := match x with
  | .lst _ => P
  | .ref a => cellL a M fun _ => P
  | _ => False
def tyS (x : D) (_ : Mem) (P : Prop) : Prop := match x with
  | .str _ => P
  | _ => False
theorem tyL_ok {x : D} {v : V} {P : Prop} (f : Fr K G F H M) (i : Is K F v x) (h : tyL x M P) : tyV K "list" v H ∧ P := by
  cases i with
  | lst h1 h2 => exact ⟨.inl ⟨rfl, _, Evl.sq_of (f.fh _ _ h1)⟩, h⟩
  | ref a =>
    obtain ⟨xs, e, h⟩ := cellL.get h
    obtain ⟨_, vs, q1, q2⟩ := f.mc a _ e
    exact ⟨.inl ⟨rfl, _, Evl.sq_of q1⟩, h⟩
  | _ => cases h
theorem tyS_ok {x : D} {v : V} {P : Prop} (i : Is K F v x) (h : tyS x M P) : tyV K "str" v H ∧ P := by
  cases i with
  | str z => exact ⟨rfl, h⟩
  | _ => cases h
def wBL (d : DM) (wo : W) (wa : WA) : W := fun ρ M k E => wo ρ M (fun x M1 => tyL x M1 (wa ρ M1 (fun xs M2 => d x xs M2 k) E)) E
def wBS (d : DM) (wo : W) (wa : WA) : W := fun ρ M k E => wo ρ M (fun x M1 => tyS x M1 (wa ρ M1 (fun xs M2 => d x xs M2 k) E)) E
theorem sd_bl_ {r : V → List V → Hp → VK → Prop} {d : DM} {to : TE} {ta : TA} {wo : W} {wa : WA} (hr : SdM K r d) (ho : Sd K L to wo) (ha : SdA K L ta wa) : Sd K L (tBM K "list" r to ta) (wBL d wo wa) := fun G F H σ ρ M k E Q f s l h q =>
  ho G F H σ ρ M _ E _ f s l h fun F1 H1 v x M1 h1 e1 f1 i1 => by
    obtain ⟨ty, h2⟩ := tyL_ok f1 i1 h1
    exact ⟨ty, ha G F1 H1 σ ρ M1 _ E _ f1 (s.up e1) (L.mono l e1) h2 fun F2 H2 vs xs M2 h3 e2 f2 i2 => hr G F2 H2 M2 x v xs vs k Q f2 (i1.up e2) i2 h3 (q.up (e1.trans e2))⟩
theorem sd_bs_ {r : V → List V → Hp → VK → Prop} {d : DM} {to : TE} {ta : TA} {wo : W} {wa : WA} (hr : SdM K r d) (ho : Sd K L to wo) (ha : SdA K L ta wa) : Sd K L (tBM K "str" r to ta) (wBS d wo wa) := fun G F H σ ρ M k E Q f s l h q =>
  ho G F H σ ρ M _ E _ f s l h fun F1 H1 v x M1 h1 e1 f1 i1 => by
    obtain ⟨ty, h2⟩ := tyS_ok i1 h1
    exact ⟨ty, ha G F1 H1 σ ρ M1 _ E _ f1 (s.up e1) (L.mono l e1) h2 fun F2 H2 vs xs M2 h3 e2 f2 i2 => hr G F2 H2 M2 x v xs vs k Q f2 (i1.up e2) i2 h3 (q.up (e1.trans e2))⟩
theorem sd_bl0 {r : V → List V → Hp → VK → Prop} {d : DM} {to : TE} {wo : W} (hr : SdM K r d) (ho : Sd K L to wo) : Sd K L (tBM0 K "list" r to) (wBL d wo waNil) := fun G F H σ ρ M k E Q f s l h q =>
  ho G F H σ ρ M _ E _ f s l h fun F1 H1 v x M1 h1 e1 f1 i1 => by
    obtain ⟨ty, h2⟩ := tyL_ok f1 i1 h1
    exact ⟨ty, hr G F1 H1 M1 x v [] [] k Q f1 i1 .nil h2 (q.up e1)⟩
def dApp : DM := fun x xs M k => match x, xs with
  | .ref a, [y] => cellL a M fun ys => Sz (ys.length + 1) (mun a (.lst (ys ++ [y])) M fun M' => k .non M')
  | _, _ => False
theorem s_app : SdM K rAppend dApp := fun G F H M x v xs vs k Q f ix is h q => by
  unfold dApp at h
  split at h
  · cases ix
    cases is with
    | cons a b =>
      cases b
      obtain ⟨ys, e, h⟩ := cellL.get h
      obtain ⟨hl, h⟩ := h.get
      obtain ⟨_, ws, q1, q2⟩ := f.mc _ _ e
      exact ⟨_, ws, _, rfl, rfl, q1, by rw [q2.len]; exact hl, q F _ .non _ _ h.get (Ex.refl F) (f.chg e ⟨_, upd_same, q2.app (.cons a .nil)⟩) .non⟩
  · exact h.elim
def dExt : DM := fun x xs M k => match x, xs with
  | .ref a, [y] => cellL a M fun ys => asLL y M fun zs => Sz (ys.length + zs.length) (mun a (.lst (ys ++ zs)) M fun M' => k .non M')
  | _, _ => False
theorem s_ext : SdM K rExtR dExt := fun G F H M x v xs vs k Q f ix is h q => by
  unfold dExt at h
  split at h
  · cases ix
    cases is with
    | cons a b =>
      cases b
      obtain ⟨ys, e, h⟩ := cellL.get h
      obtain ⟨_, ws, q1, q2⟩ := f.mc _ _ e
      obtain ⟨p, us, zs, rfl, i1, r1, h⟩ := asLL_ok f a h
      obtain ⟨hl, h⟩ := h.get
      exact ⟨_, p, ws, us, rfl, rfl, q1, .inl r1, by rw [q2.len, i1.len]; exact hl, q F _ .non _ _ h.get (Ex.refl F) (f.chg e ⟨_, upd_same, q2.app i1⟩) .non⟩
  · exact h.elim
theorem IsAll.dropLast : ∀ {vs : List V} {ds : List D}, IsAll K F vs ds → IsAll K F vs.dropLast ds.dropLast
  | _, _, .nil => .nil
  | _, _, .cons _ .nil => .nil
  | _, _, .cons h (.cons g t) => .cons h (IsAll.dropLast (.cons g t))
@[irreducible] def lastD (ys : List D) (k : D → Prop) : Prop := ∃ y, ys[ys.length - 1]? = some y ∧ k y
theorem lastD.get {ys : List D} {k : D → Prop} (h : lastD ys k) : ∃ y, ys[ys.length - 1]? = some y ∧ k y := by unfold lastD at h; exact h
theorem last_of {ys : List D} {k : D → Prop} {y : D} (e : ys[ys.length - 1]? = some y) (h : k y) : lastD ys k := by unfold lastD; exact ⟨y, e, h⟩
def dPop : DM := fun x xs M k => match x, xs with
  | .ref a, [] => cellL a M fun ys => lastD ys fun y => mun a (.lst ys.dropLast) M fun M' => k y M'
  | _, _ => False
theorem s_pop : SdM K rPop dPop := fun G F H M x v xs vs k Q f ix is h q => by
  unfold dPop at h
  split at h
  · cases ix
    cases is
    obtain ⟨ys, e, h⟩ := cellL.get h
    obtain ⟨y, hy, h⟩ := h.get
    obtain ⟨_, ws, q1, q2⟩ := f.mc _ _ e
    obtain ⟨u, h1, h2⟩ := q2.get hy
    exact ⟨_, ws, u, rfl, rfl, q1, by rw [q2.len]; exact h1, q F _ u y _ h.get (Ex.refl F) (f.chg e ⟨_, upd_same, q2.dropLast⟩) h2⟩
  · exact h.elim
@[irreducible] def joinD (a : Str) (l : List Str) (k : Str → Prop) : Prop := (l.map (·.length)).sum + l.length * a.length ≤ 16777216 ∧ k (Txt.join a l)
theorem joinD.get {a : Str} {l : List Str} {k : Str → Prop} (h : joinD a l k) : (l.map (·.length)).sum + l.length * a.length ≤ 16777216 ∧ k (Txt.join a l) := by unfold joinD at h; exact h
theorem join_of {a : Str} {l : List Str} {k : Str → Prop} (h0 : (l.map (·.length)).sum + l.length * a.length ≤ 16777216) (h : k (Txt.join a l)) : joinD a l k := by unfold joinD; exact ⟨h0, h⟩
def dJoin : DM := fun x xs M k => match x, xs with
  | .str a, [y] => asS y M fun ys => strsD ys fun l => joinD a l fun z => k (.str z) M
  | _, _ => False
theorem s_join : SdM K (qJoin K) dJoin := fun G F H M x v xs vs k Q f ix is h q => by
  unfold dJoin at h
  split at h
  · cases ix
    cases is with
    | cons a b =>
      cases b
      obtain ⟨p, us, zs, rfl, i1, r1, h⟩ := asS_ok f a h
      have h2 := h.get; clear h
      obtain ⟨l, rfl, h⟩ := h2
      obtain ⟨hl, h⟩ := h.get
      have e := IsAll.ls l i1
      subst e
      exact ⟨_, p, l, rfl, rfl, r1, hl, lend f q (.str _) h⟩
  · exact h.elim
def dStarts : DM := fun x xs M k => match x, xs with
  | .str a, [.str b] => k (.bl (Txt.startswith a b)) M
  | _, _ => False
theorem s_starts : SdM K qStarts dStarts := fun G F H M x v xs vs k Q f ix is h q => by
  unfold dStarts at h
  split at h
  · cases ix
    cases is with
    | cons a b =>
      cases b
      cases a
      exact ⟨_, _, rfl, rfl, lend f q (.bl _) h⟩
  · exact h.elim
/-! ### own special methods -/
/-- what a comparison's right side may be: of a built-in type, or of one of some own classes -/
def yOk (cs : List Str) (y : D) (M : Mem) : Prop := match y with
  | .ins c _ _ => c ∈ cs
  | .ref a => cellL a M fun _ => True
  | .ty _ => False
  | .cls _ => False
  | .scr _ => False
  | .tux _ => False
  | _ => True
def baseT : List String := ["NoneType", "bool", "int", "str", "list", "tuple"]
theorem lst_ty {a : Addr} {vs : List V} (h : H a = some (.lst vs)) : TyX K H (.ref a) (.type "list") := .base (.lst h)
theorem tup_ty {a : Addr} {vs : List V} (h : SqT K H a vs) : TyX K H (.ref a) (.type "tuple") := by
  rcases h with (z | ⟨o, z⟩) | ⟨o, its, n, z1, z2, _⟩
  · exact .base (.tup z)
  · exact .fTuple z
  · exact .kTuple z1 z2
theorem yOk_ok {cs : List Str} {y : D} {v : V} {C : Addr} (hT : ∀ t ∈ baseT, PySem.W.notFirst K C (.type t) = true) (hO : ∀ c ∈ cs, PySem.W.notFirst K C (.ref (He.ga K c)) = true) (f : Fr K G F H M) (i : Is K F v y) (h : yOk cs y M) : ∃ t, TyX K H v t ∧ PySem.W.notFirst K C t = true := by
  cases i with
  | non => exact ⟨_, .base .non, hT _ (by simp [baseT])⟩
  | bl b => exact ⟨_, .base (.bl b), hT _ (by simp [baseT])⟩
  | int j => exact ⟨_, .base (.int j), hT _ (by simp [baseT])⟩
  | str z => exact ⟨_, .base (.str z), hT _ (by simp [baseT])⟩
  | ty n => cases h
  | lst h1 h2 => exact ⟨_, lst_ty (f.fh _ _ h1), hT _ (by simp [baseT])⟩
  | tup h1 h2 => exact ⟨_, tup_ty (Evl.ex_t f.fh h1), hT _ (by simp [baseT])⟩
  | ins h1 h0 h2 h3 => exact ⟨_, h0.ty.ty (f.fh _ _ h1), hO _ h⟩
  | cls c => cases h
  | ref a =>
    obtain ⟨xs, e, _⟩ := cellL.get h
    obtain ⟨_, vs, q1, q2⟩ := f.mc _ _ e
    exact ⟨_, lst_ty q1, hT _ (by simp [baseT])⟩
  | scr h => cases h
  | tux _ h1 _ _ => cases h
@[irreducible] def eqO (c c' : Str) (cs : List Str) (y : D) (M : Mem) (P R : Prop) : Prop := (c' = c ∧ yOk cs y M ∧ P) ∨ R
theorem eqO.get {c c' : Str} {cs : List Str} {y : D} {M : Mem} {P R : Prop} (h : eqO c c' cs y M P R) : (c' = c ∧ yOk cs y M ∧ P) ∨ R := by unfold eqO at h; exact h
theorem eq_own {c : Str} {cs : List Str} {y : D} {M : Mem} {P R : Prop} (h0 : yOk cs y M) (h : P) : eqO c c cs y M P R := by unfold eqO; exact .inl ⟨rfl, h0, h⟩
theorem eq_oth {c c' : Str} {cs : List Str} {y : D} {M : Mem} {P R : Prop} (h : R) : eqO c c' cs y M P R := by unfold eqO; exact .inr h
def dEqO (c : Str) (cs : List Str) (wf : WF) (d : D2) : D2 := fun x y M k => match x with
  | .ins c' _ _ => eqO c c' cs y M (wf [x, y] M (isB fun b M' => k (.bl b) M') noX) (d x y M k)
  | _ => d x y M k
def dNeO (c : Str) (cs : List Str) (wf : WF) (d : D2) : D2 := fun x y M k => match x with
  | .ins c' _ _ => eqO c c' cs y M (wf [x, y] M (isB fun b M' => k (.bl (!b)) M') noX) (d x y M k)
  | _ => d x y M k
theorem s_eqO {c : Str} {cs : List Str} {sp : Sp} {wf : WF} {r : R2} {d : D2} {EX : XK} (hT : ∀ t ∈ baseT, PySem.W.notFirst K (He.ga K c) (.type t) = true) (hO : ∀ c' ∈ cs, PySem.W.notFirst K (He.ga K c) (.ref (He.ga K c')) = true) (hf : SdF K sp wf) (hr : Sd2 K r d) : Sd2 K (orR2 r (rEqO K (He.ga K c) sp EX)) (dEqO c cs wf d) := fun G F H M x y v u k Q f ix iy h q => by
  cases x with
  | ins c' ns xs =>
    have h2 := eqO.get h; clear h; rcases h2 with ⟨rfl, hy, h⟩ | h
    · obtain ⟨t, ty, nf⟩ := yOk_ok hT hO f iy hy
      cases ix with
      | ins h1 h0 h2 h3 =>
        exact .inr ⟨_, _, _, t, rfl, f.fh _ _ h1, ty, nf, hf G F H M _ _ _ noX _ EX f (.cons (.ins h1 h0 h2 h3) (.cons iy .nil)) h fun F' H' w z M' hk e' f' i' => by
          obtain ⟨b, rfl, rfl, hb⟩ := isB_ok hk i'
          exact ⟨b, rfl, q F' H' _ _ M' hb e' f' (.bl b)⟩⟩
    · exact .inl (hr G F H M _ y v u k Q f ix iy h q)
  | _ => exact .inl (hr G F H M _ y v u k Q f ix iy h q)
theorem s_neO {c : Str} {cs : List Str} {sp : Sp} {wf : WF} {r : R2} {d : D2} {EX : XK} (hT : ∀ t ∈ baseT, PySem.W.notFirst K (He.ga K c) (.type t) = true) (hO : ∀ c' ∈ cs, PySem.W.notFirst K (He.ga K c) (.ref (He.ga K c')) = true) (hf : SdF K sp wf) (hr : Sd2 K r d) : Sd2 K (orR2 r (rNeO K (He.ga K c) sp EX)) (dNeO c cs wf d) := fun G F H M x y v u k Q f ix iy h q => by
  cases x with
  | ins c' ns xs =>
    have h2 := eqO.get h; clear h; rcases h2 with ⟨rfl, hy, h⟩ | h
    · obtain ⟨t, ty, nf⟩ := yOk_ok hT hO f iy hy
      cases ix with
      | ins h1 h0 h2 h3 =>
        exact .inr ⟨_, _, _, t, rfl, f.fh _ _ h1, ty, nf, hf G F H M _ _ _ noX _ EX f (.cons (.ins h1 h0 h2 h3) (.cons iy .nil)) h fun F' H' w z M' hk e' f' i' => by
          obtain ⟨b, rfl, rfl, hb⟩ := isB_ok hk i'
          exact ⟨b, rfl, q F' H' _ _ M' hb e' f' (.bl _)⟩⟩
    · exact .inl (hr G F H M _ y v u k Q f ix iy h q)
  | _ => exact .inl (hr G F H M _ y v u k Q f ix iy h q)
@[irreducible] def same (c c' : Str) (P : Prop) : Prop := c' = c ∧ P
theorem same.get {c c' : Str} {P : Prop} (h : same c c' P) : c' = c ∧ P := by unfold same at h; exact h
theorem same_of {c : Str} {P : Prop} (h : P) : same c c P := by unfold same; exact ⟨rfl, h⟩
@[irreducible] def lenR (n : Int) (P : Prop) : Prop := (0 ≤ n ∧ n < 2 ^ 63) ∧ P
theorem lenR.get {n : Int} {P : Prop} (h : lenR n P) : (0 ≤ n ∧ n < 2 ^ 63) ∧ P := by unfold lenR at h; exact h
theorem lenr {n : Int} {P : Prop} (h0 : 0 ≤ n ∧ n < 2 ^ 63) (h : P) : lenR n P := by unfold lenR; exact ⟨h0, h⟩
def dLenO (c : Str) (wf : WF) (d : D1) : D1 := fun x M k => match x with
  | .ins c' _ _ => same c c' (wf [x] M (fun r M' => asInt r fun n => lenR n (k (.int n) M')) noX)
  | _ => d x M k
def dStrO (c : Str) (wf : WF) (d : D1) : D1 := fun x M k => match x with
  | .ins c' _ _ => same c c' (wf [x] M (fun r M' => asStr r fun z => k (.str z) M') noX)
  | _ => d x M k
theorem s_lenO {c : Str} {sp : Sp} {wf : WF} {r : List V → Hp → VK → Prop} {d : D1} {EX : XK} (hf : SdF K sp wf) (hr : SdB K r (b1 d)) : SdB K (orC r (rLenO (He.ga K c) sp EX)) (b1 (dLenO c wf d)) := fun G F H M xs vs k Q f i h q => by
  cases i with
  | nil => cases h
  | cons a b => cases b with
    | cons _ _ => cases h
    | nil =>
      rename_i x
      cases x with
      | ins c' ns xs =>
        have h2 := same.get h; clear h; obtain ⟨rfl, h⟩ := h2
        cases a with
        | ins h1 h0 h2 h3 =>
          exact .inr ⟨_, _, _, rfl, f.fh _ _ h1, hf G F H M _ _ _ noX _ EX f (.cons (.ins h1 h0 h2 h3) .nil) h fun F' H' w z M' hk e' f' i' => by
            obtain ⟨n, rfl, rfl, hb⟩ := asInt_ok i' hk
            obtain ⟨⟨h4, h5⟩, hb⟩ := hb.get
            exact ⟨n, rfl, h4, h5, q F' H' _ _ M' hb e' f' (.int n)⟩⟩
      | _ => exact .inl (hr G F H M _ _ k Q f (.cons a .nil) h q)
theorem s_strO {c : Str} {sp : Sp} {wf : WF} {r : List V → Hp → VK → Prop} {d : D1} {EX : XK} (hf : SdF K sp wf) (hr : SdB K r (b1 d)) : SdB K (orC r (rStrO (He.ga K c) sp EX)) (b1 (dStrO c wf d)) := fun G F H M xs vs k Q f i h q => by
  cases i with
  | nil => cases h
  | cons a b => cases b with
    | cons _ _ => cases h
    | nil =>
      rename_i x
      cases x with
      | ins c' ns xs =>
        have h2 := same.get h; clear h; obtain ⟨rfl, h⟩ := h2
        cases a with
        | ins h1 h0 h2 h3 =>
          exact .inr ⟨_, _, _, rfl, f.fh _ _ h1, hf G F H M _ _ _ noX _ EX f (.cons (.ins h1 h0 h2 h3) .nil) h fun F' H' w z M' hk e' f' i' => by
            obtain ⟨n, rfl, rfl, hb⟩ := asStr_ok i' hk
            exact ⟨n, rfl, q F' H' _ _ M' hb e' f' (.str n)⟩⟩
      | _ => exact .inl (hr G F H M _ _ k Q f (.cons a .nil) h q)
/-! ### isinstance -/
/-- the own classes with those above them -/
abbrev CT := List (Str × List Str)
def CT.sub (T : CT) (c c' : Str) : Option Bool := (T.lookup c).map fun l => l.contains c'
structure CTok (K : Frag) (T : CT) : Prop where
  base : ∀ p ∈ T, ∀ t ∈ baseT, PySem.W.kitOne K (.type t) (.ref (He.ga K p.1)) = some false
  own : ∀ p ∈ T, ∀ p' ∈ T, PySem.W.kitOne K (.ref (He.ga K p.1)) (.ref (He.ga K p'.1)) = some (p.2.contains p'.1)
  ty : ∀ p ∈ T, ∀ t ∈ baseT, PySem.W.kitOne K (.ref (He.ga K p.1)) (.type t) = some false
theorem look_mem {c : Str} : ∀ {T : CT} {l : List Str}, T.lookup c = some l → (c, l) ∈ T
  | [], _, h => by cases h
  | (a, m) :: T, l, h => by
    simp only [List.lookup] at h
    split at h
    · rename_i e
      cases h
      have : c = a := by simpa using e
      subst this; simp
    · exact List.mem_cons_of_mem _ (look_mem h)
theorem isSome_mem {c : Str} {T : CT} (h : (T.lookup c).isSome = true) : ∃ l, (c, l) ∈ T := by
  obtain ⟨l, e⟩ := Option.isSome_iff_exists.mp h
  exact ⟨l, look_mem e⟩
/-- the built-in type of a datum -/
def tyD (M : Mem) : D → Option String
  | .non => some "NoneType"
  | .bl _ => some "bool"
  | .int _ => some "int"
  | .str _ => some "str"
  | .lst _ => some "list"
  | .tup _ => some "tuple"
  | .ref a => match M a with
    | some (.lst _) => some "list"
    | _ => none
  | _ => none
theorem tyD_ok {x : D} {v : V} {n : String} (f : Fr K G F H M) (i : Is K F v x) (e : tyD M x = some n) : TyX K H v (.type n) ∧ n ∈ baseT := by
  cases i with
  | non => cases e; exact ⟨.base .non, by simp [baseT]⟩
  | bl b => cases e; exact ⟨.base (.bl b), by simp [baseT]⟩
  | int j => cases e; exact ⟨.base (.int j), by simp [baseT]⟩
  | str z => cases e; exact ⟨.base (.str z), by simp [baseT]⟩
  | ty n => cases e
  | lst h1 h2 => cases e; exact ⟨lst_ty (f.fh _ _ h1), by simp [baseT]⟩
  | tup h1 h2 => cases e; exact ⟨tup_ty (Evl.ex_t f.fh h1), by simp [baseT]⟩
  | ins h1 h0 h2 h3 => cases e
  | cls c => cases e
  | ref a =>
    simp only [tyD] at e
    split at e <;> cases e
    rename_i xs e
    obtain ⟨_, vs, q1, q2⟩ := f.mc _ _ e
    exact ⟨lst_ty q1, by simp [baseT]⟩
  | scr h => cases e
  | tux _ h1 _ _ => cases e
@[irreducible] def isiOO (T : CT) (c c' : Str) (k : Bool → Prop) : Prop := ∃ b, T.sub c c' = some b ∧ (T.lookup c').isSome = true ∧ k b
theorem isiOO.get {T : CT} {c c' : Str} {k : Bool → Prop} (h : isiOO T c c' k) : ∃ b, T.sub c c' = some b ∧ (T.lookup c').isSome = true ∧ k b := by unfold isiOO at h; exact h
theorem isi_oo {T : CT} {c c' : Str} {k : Bool → Prop} {b : Bool} (e : T.sub c c' = some b) (e2 : (T.lookup c').isSome = true) (h : k b) : isiOO T c c' k := by unfold isiOO; exact ⟨b, e, e2, h⟩
@[irreducible] def isiOT (T : CT) (c : Str) (n : String) (P : Prop) : Prop := (T.lookup c).isSome = true ∧ n ∈ baseT ∧ P
theorem isiOT.get {T : CT} {c : Str} {n : String} {P : Prop} (h : isiOT T c n P) : (T.lookup c).isSome = true ∧ n ∈ baseT ∧ P := by unfold isiOT at h; exact h
theorem isi_ot {T : CT} {c : Str} {n : String} {P : Prop} (e : (T.lookup c).isSome = true) (e2 : n ∈ baseT) (h : P) : isiOT T c n P := by unfold isiOT; exact ⟨e, e2, h⟩
@[irreducible] def isiTO (T : CT) (M : Mem) (x : D) (c' : Str) (P : Prop) : Prop := ∃ n, tyD M x = some n ∧ (T.lookup c').isSome = true ∧ P
theorem isiTO.get {T : CT} {M : Mem} {x : D} {c' : Str} {P : Prop} (h : isiTO T M x c' P) : ∃ n, tyD M x = some n ∧ (T.lookup c').isSome = true ∧ P := by unfold isiTO at h; exact h
theorem isi_to {T : CT} {M : Mem} {x : D} {c' : Str} {P : Prop} {n : String} (e : tyD M x = some n) (e2 : (T.lookup c').isSome = true) (h : P) : isiTO T M x c' P := by unfold isiTO; exact ⟨n, e, e2, h⟩
@[irreducible] def isiTT (M : Mem) (x : D) (m : String) (k : Bool → Prop) : Prop := ∃ n b, tyD M x = some n ∧ kitB n m = some b ∧ k b
theorem isiTT.get {M : Mem} {x : D} {m : String} {k : Bool → Prop} (h : isiTT M x m k) : ∃ n b, tyD M x = some n ∧ kitB n m = some b ∧ k b := by unfold isiTT at h; exact h
theorem isi_tt {M : Mem} {x : D} {m : String} {k : Bool → Prop} {n : String} {b : Bool} (e : tyD M x = some n) (e2 : kitB n m = some b) (h : k b) : isiTT M x m k := by unfold isiTT; exact ⟨n, b, e, e2, h⟩
def dIsi (T : CT) : DA := fun xs M k => match xs with
  | [.ins c _ _, .cls c'] => isiOO T c c' fun b => k (.bl b) M
  | [.ins c _ _, .ty n] => isiOT T c n (k (.bl false) M)
  | [x, .cls c'] => isiTO T M x c' (k (.bl false) M)
  | [x, .ty m] => isiTT M x m fun b => k (.bl b) M
  | _ => False
theorem s_isi {T : CT} (ok : CTok K T) : SdB K (qIsi K) (dIsi T) := fun G F H M xs vs k Q f i h q => by
  unfold dIsi at h
  split at h
  · cases i with
    | cons a b => cases b with
      | cons b r =>
        cases r
        cases b
        obtain ⟨b, h1, h2, h⟩ := isiOO.get h
        cases a with
        | ins p1 p0 p2 p3 => exact .inl ⟨_, _, _, _, b, rfl, .own _, p0.ty.ty (f.fh _ _ p1), (by obtain ⟨l, e1, e2⟩ := Option.map_eq_some_iff.mp h1; obtain ⟨l', e3⟩ := isSome_mem h2; rw [← e2]; exact ok.own _ (look_mem e1) _ e3), lend f q (.bl _) h⟩
  · cases i with
    | cons a b => cases b with
      | cons b r =>
        cases r
        cases b
        obtain ⟨h1, h2, h⟩ := isiOT.get h
        cases a with
        | ins p1 p0 p2 p3 => exact .inl ⟨_, _, _, _, false, rfl, .ty _, p0.ty.ty (f.fh _ _ p1), (by obtain ⟨l, e⟩ := isSome_mem h1; exact ok.ty _ e _ h2), lend f q (.bl _) h⟩
  · cases i with
    | cons a b => cases b with
      | cons b r =>
        cases r
        cases b
        obtain ⟨n, h1, h2, h⟩ := isiTO.get h
        obtain ⟨ty, hn⟩ := tyD_ok f a h1
        exact .inl ⟨_, _, _, _, false, rfl, .own _, ty, (by obtain ⟨l, e⟩ := isSome_mem h2; exact ok.base _ e n hn), lend f q (.bl _) h⟩
  · cases i with
    | cons a b => cases b with
      | cons b r =>
        cases r
        cases b
        obtain ⟨n, b, h1, h2, h⟩ := isiTT.get h
        obtain ⟨ty, hn⟩ := tyD_ok f a h1
        exact .inl ⟨_, _, _, _, b, rfl, .ty _, ty, kit_ty h2, lend f q (.bl _) h⟩
  · exact h.elim
/-- isinstance(x, (A, B)): the answer of both -/
def kit2 (n m1 m2 : String) : Option Bool := match kitB n m1 with
  | some true => some true
  | some false => kitB n m2
  | none => none
@[irreducible] def isi2D (M : Mem) (x : D) (m1 m2 : String) (k : Bool → Prop) : Prop := ∃ n b, tyD M x = some n ∧ kit2 n m1 m2 = some b ∧ k b
theorem isi2D.get {M : Mem} {x : D} {m1 m2 : String} {k : Bool → Prop} (h : isi2D M x m1 m2 k) : ∃ n b, tyD M x = some n ∧ kit2 n m1 m2 = some b ∧ k b := by unfold isi2D at h; exact h
theorem isi_2 {M : Mem} {x : D} {m1 m2 : String} {k : Bool → Prop} {n : String} {b : Bool} (e : tyD M x = some n) (e2 : kit2 n m1 m2 = some b) (h : k b) : isi2D M x m1 m2 k := by unfold isi2D; exact ⟨n, b, e, e2, h⟩
def wIsi2 (m1 m2 : String) (we : W) : W := fun ρ M k E => we ρ M (fun x M1 => isi2D M1 x m1 m2 fun b => k (.bl b) M1) E
theorem sd_isi2 {te : TE} {we : W} {m1 m2 : String} (he : Sd K L te we) : Sd K L (tCB (qIsi K) (tCons te (tCons (tTup (tCons (tC (.ty m1)) (tCons (tC (.ty m2)) tNil))) tNil))) (wIsi2 m1 m2 we) := fun G F H σ ρ M k E Q f s l h q =>
  he G F H σ ρ M _ E _ f s l h fun F1 H1 v x M1 h1 e1 f1 i1 => by
    have key : (∃ n b, tyD M1 x = some n ∧ kit2 n m1 m2 = some b ∧ k (.bl b) M1) → (2 ≤ sizeLine ∧ ∀ p, H1 p = none → qIsi K [v, .ref p] (upd H1 p (.tup [.ty m1, .ty m2])) Q) := fun ⟨n, b, h2, h3, h4⟩ => by
      refine ⟨by decide, fun p np => ?_⟩
      have f2 := f1.laid (o := .tup [.ty m1, .ty m2]) np
      have ty := (tyD_ok f2 (i1.up (f1.exl np)) h2).1
      refine .inr ⟨v, p, [.ty m1, .ty m2], .type n, [.type m1, .type m2], b, rfl, upd_same, .cons (.ty m1) (.cons (.ty m2) .nil), ty, ?_, q _ _ _ _ M1 h4 (e1.trans (f1.exl np)) f2 (.bl b)⟩
      unfold kit2 at h3
      cases qq : kitB n m1 with
      | none => rw [qq] at h3; cases h3
      | some r =>
        rw [qq] at h3
        cases r with
        | true => cases h3; exact kitAny_cons (kit_ty qq) (fun z => by cases z) fun _ => rfl
        | false =>
          have e3 : kitB n m2 = some b := h3
          exact kitAny_cons (kit_ty qq) (fun _ => kitAny_cons (kit_ty e3) (fun z => by rw [z]; exact kitAny_nil) fun z => z) fun z => by cases z
    exact key h1.get
end
end Px

set_option Elab.async false
set_option linter.all false
set_option maxRecDepth 100000
set_option maxHeartbeats 4000000
/-! More constructs; how transformers are worked with. -/
namespace Px
open PySem PySem.Spec PyProof.Rows L2 Rl RZ RT
open Evl (Ex)
theorem memN {α : Type} {P : α → Prop} : ∀ c ∈ ([] : List α), P c := fun c h => by cases h
theorem memC {α : Type} {P : α → Prop} {a : α} {l : List α} (h : P a) (g : ∀ c ∈ l, P c) : ∀ c ∈ a :: l, P c := fun c hc => by
  rcases List.mem_cons.mp hc with e | e
  · subst e; exact h
  · exact g c e
section
variable {K : Frag} {L : XL}
def isBl (b : Bool) : D → Bool
  | .bl c => c == b
  | _ => false
def asBl : D → (Bool → Prop) → Prop
  | .bl b, k => k b
  | _, _ => False
def dIsB : D2 := fun x y M k => asBl y fun b => k (.bl (isBl b x)) M
def dIsnB : D2 := fun x y M k => asBl y fun b => k (.bl (!isBl b x)) M
theorem isBl_ok {F : Hp} {x : D} {v : V} {b : Bool} (i : Is K F v x) : decide (v = V.bl b) = isBl b x := by
  cases i <;> first | rfl | (rename_i c; cases c <;> cases b <;> rfl)
theorem s_isB : Sd2 K qIsB dIsB := fun G F H M x y v u k Q f ix iy h q => by
  cases iy with
  | bl b => exact ⟨b, rfl, by rw [isBl_ok ix]; exact lend f q (.bl _) h⟩
  | _ => cases h
theorem s_isnB : Sd2 K qIsnB dIsnB := fun G F H M x y v u k Q f ix iy h q => by
  cases iy with
  | bl b => exact ⟨b, rfl, by rw [isBl_ok ix]; exact lend f q (.bl _) h⟩
  | _ => cases h
/-- min, max, also of tuples -/
def dMaxT : DA := fun xs M k => match xs with
  | [.tup xs] => intsD xs fun l => isMax l fun m => k (.int m) M
  | [.tux l] => isMax l fun m => k (.int m) M
  | xs => dMax xs M k
def dMinT : DA := fun xs M k => match xs with
  | [.tup xs] => intsD xs fun l => isMin l fun m => k (.int m) M
  | [.tux l] => isMin l fun m => k (.int m) M
  | xs => dMin xs M k
theorem s_maxT : SdB K (qMxT K) dMaxT := fun G F H M xs vs k Q f i h q => by
  unfold dMaxT at h
  split at h
  · have h2 := intsD.get h; clear h
    obtain ⟨l, rfl, h⟩ := h2
    obtain ⟨h0, h⟩ := h.get
    cases i with
    | cons a b =>
      cases b
      cases a with
      | tup a1 a2 =>
        have e := IsAll.li l a2
        subst e
        exact .inr ⟨_, l, rfl, Evl.ex_t f.fh a1, h0, fun m h1 h2 => lend f q (.int _) (h m h1 h2)⟩
  · obtain ⟨h0, h⟩ := h.get
    cases i with
    | cons a b =>
      cases b
      cases a with
      | tux o a1 _ _ => exact .inr ⟨_, _, rfl, .inl (.inr ⟨o, f.fh _ _ a1⟩), h0, fun m h1 h2 => lend f q (.int _) (h m h1 h2)⟩
  · exact .inl (s_max G F H M _ vs k Q f i h q)
theorem s_minT : SdB K (qMnT K) dMinT := fun G F H M xs vs k Q f i h q => by
  unfold dMinT at h
  split at h
  · have h2 := intsD.get h; clear h
    obtain ⟨l, rfl, h⟩ := h2
    obtain ⟨h0, h⟩ := h.get
    cases i with
    | cons a b =>
      cases b
      cases a with
      | tup a1 a2 =>
        have e := IsAll.li l a2
        subst e
        exact .inr ⟨_, l, rfl, Evl.ex_t f.fh a1, h0, fun m h1 h2 => lend f q (.int _) (h m h1 h2)⟩
  · obtain ⟨h0, h⟩ := h.get
    cases i with
    | cons a b =>
      cases b
      cases a with
      | tux o a1 _ _ => exact .inr ⟨_, _, rfl, .inl (.inr ⟨o, f.fh _ _ a1⟩), h0, fun m h1 h2 => lend f q (.int _) (h m h1 h2)⟩
  · exact .inl (s_min G F H M _ vs k Q f i h q)
/-- products, tuples again and again -/
@[irreducible] def repT (xs : List D) (j : Int) (P : Prop) : Prop := xs ≠ [] ∧ (1 ≤ j ∧ j ≤ 1000) ∧ xs.length ≤ 1000 ∧ P
theorem repT.get {xs : List D} {j : Int} {P : Prop} (h : repT xs j P) : xs ≠ [] ∧ (1 ≤ j ∧ j ≤ 1000) ∧ xs.length ≤ 1000 ∧ P := by unfold repT at h; exact h
theorem rep_t {xs : List D} {j : Int} {P : Prop} (h1 : xs ≠ []) (h2 : 1 ≤ j ∧ j ≤ 1000) (h3 : xs.length ≤ 1000) (h : P) : repT xs j P := by unfold repT; exact ⟨h1, h2, h3, h⟩
def dMulT (m : Bool) : D2 := fun x y M k => match x with
  | .tup xs => asInt y fun j => repT xs j (k (.tup (List.replicate j.toNat xs).flatten) M)
  | x => dMul m x y M k
theorem s_mulT {m : Bool} : Sd2 K (qMulT K) (dMulT m) := fun G F H M x y v u k Q f ix iy h q => by
  cases x with
  | tup xs =>
    obtain ⟨j, rfl, rfl, h⟩ := asInt_ok iy h
    obtain ⟨h1, h2, h3, h⟩ := h.get
    cases ix with
    | tup a1 a2 =>
      by_cases e1 : j = 1
      · subst e1
        have e : (List.replicate (Int.toNat 1) xs).flatten = xs := by simp
        rw [e] at h
        exact .inr (.inr ⟨_, _, rfl, rfl, Evl.ex_t f.fh a1, q F H _ _ M h (Ex.refl F) f (.tup a1 a2)⟩)
      · exact .inr (.inl ⟨_, j, _, rfl, rfl, Evl.ex_t f.fh a1, (fun e => h1 (by subst e; cases a2; rfl)), by omega, h2.2, by rw [a2.len]; exact h3, fun p n => lendT f q (a2.rep _) h n⟩)
  | _ => exact .inl (s_mul (m := m) G F H M _ y v u k Q f ix iy h q)
/-- x[::-1] -/
def wRev (m : Bool) (we : W) : W := fun ρ M k E => we ρ M (fun x M1 => match x with
  | .tup xs => k (.tup xs.reverse) M1
  | x => asLL x M1 fun xs => mkL m xs.reverse M1 k) E
theorem sd_rev {m : Bool} {te : TE} {we : W} (he : Sd K L te we) : Sd K L (tRevA K te) (wRev m we) := fun G F H σ ρ M k E Q f s l h q =>
  he G F H σ ρ M _ E _ f s l h fun F1 H1 v x M1 h1 e1 f1 i1 => by
    have lists : (asLL x M1 fun xs => mkL m xs.reverse M1 k) → ∃ a xs, v = V.ref a ∧ ((SqL K H1 a xs ∧ ∀ p, H1 p = none → Q (.ref p) (upd H1 p (.lst xs.reverse))) ∨ (SqT K H1 a xs ∧ ∀ p, H1 p = none → Q (.ref p) (upd H1 p (.tup xs.reverse)))) := fun h => by
      obtain ⟨a, vs, xs, rfl, j1, r1, h⟩ := asLL_ok f1 i1 h
      exact ⟨a, vs, rfl, .inl ⟨Evl.sq_of r1, fun p n => mkL_ok f1 j1.rev h (q.up e1) n⟩⟩
    cases x with
    | tup xs =>
      cases i1 with
      | tup a1 a2 => exact ⟨_, _, rfl, .inr ⟨Evl.ex_t f1.fh a1, fun p n => lendT f1 (q.up e1) a2.rev h1 n⟩⟩
    | _ => exact lists h1
/-- *x among arguments -/
def waStar (we : W) (wr : WA) : WA := fun ρ M k E => we ρ M (fun x M1 => asS x M1 fun xs => wr ρ M1 (fun ys M2 => k (xs ++ ys) M2) E) E
theorem sda_star {te : TE} {tr : TA} {we : W} {wr : WA} (ha : Sd K L te we) (hb : SdA K L tr wr) : SdA K L (StX.tStar K te tr) (waStar we wr) := fun G F H σ ρ M k E Q f s l h q =>
  ha G F H σ ρ M _ E _ f s l h fun F1 H1 v x M1 h1 e1 f1 i1 => by
    obtain ⟨a, vs, xs, rfl, j1, r1, h2⟩ := asS_ok f1 i1 h1
    exact ⟨a, vs, rfl, r1.symm, hb G F1 H1 σ ρ M1 _ E _ f1 (s.up e1) (L.mono l e1) h2 fun F2 H2 us ys M2 h3 e2 f2 j2 => q F2 H2 _ _ M2 h3 (e1.trans e2) f2 ((j1.up e2).app j2)⟩
end
/-- a, b = a list -/
def wgLst (n : Nat) (gs : WGs) : WG := fun x ρ M k E => match x with
  | .lst xs => Ck n xs (gs xs ρ M k E)
  | _ => False
theorem sdg_lst {K : Frag} {L : XL} {n : Nat} {gs : TGs} {wgs : WGs} (h2 : SdGs K L gs wgs) : SdG K L (gLst K n gs) (wgLst n wgs) := fun G F H σ ρ M v x k E Q f s l is h q => by
  cases is with
  | lst a b => exact ⟨_, _, rfl, Evl.sq_of (f.fh _ _ a), by rw [b.len]; exact (Ck.get h).1, h2 G F H σ ρ M _ _ k E Q f s l b (Ck.get h).2 q⟩
  | _ => cases h
instance {K : Frag} {n : Nat} {gs : TGs} [b : GsMono gs] : GMono (gLst K n gs) := ⟨fun x σ H Q Q' h ⟨a, xs, e1, e2, e3, q⟩ => ⟨a, xs, e1, e2, e3, b.mono _ _ _ _ _ h q⟩⟩
theorem gin_lst {K : Frag} {n : Nat} {gs : TGs} {vs : List Nat} (h : GIns gs vs) : GIn (gLst K n gs) vs := fun x σ H Q ⟨a, xs, e1, e2, e3, q⟩ => ⟨a, xs, e1, e2, e3, h _ _ _ _ q⟩
/-- a cell in a slot, frozen; what is none stays -/
def wFrzA (i : Nat) : WS := fun ρ M P _ => match ρ[i]? with
  | some (some (.ref a)) => frzD (.ref a) M fun y M' => P.nx (ρ.set i (some y)) M'
  | _ => P.nx ρ M
theorem sds_frzA {K : Frag} {L : XL} {t : TS} {w : WS} {i : Nat} (h0 : SdS K L t w) : SdS K L t (wSeq (wFrzA i) w) := fun G F H σ ρ M P E D f s l h a b c d => by
  have h1 : wFrzA i ρ M { P with nx := fun ρ' M' => w ρ' M' P E } E := h
  unfold wFrzA at h1
  split at h1
  · rename_i p e
    refine sds_frz (i := i) h0 G F H σ ρ M P E D f s l ?_ a b c d
    show (match ρ[i]? with
      | some (some x) => frzD x M fun y M' => w (ρ.set i (some y)) M' P E
      | _ => False)
    rw [e]
    exact h1
  · exact h0 G F H σ ρ M P E D f s l h1 a b c d
end Px

set_option Elab.async false
set_option linter.all false
set_option maxRecDepth 100000
set_option maxHeartbeats 4000000
/-! Working with transformers: branches, loops, comprehensions, lists of ints. -/
namespace Px
open PySem PySem.Spec PyProof.Rows L2 Rl RZ RT
/-! ### branches -/
theorem br_t {A B : Prop} (h : A) : Br true A B := ⟨fun _ => h, fun e => by cases e⟩
theorem br_f {A B : Prop} (h : B) : Br false A B := ⟨(fun e => by cases e), fun _ => h⟩
theorem br_not {b : Bool} {A B : Prop} (h : Br b B A) : Br (!b) A B := by cases b; exact br_t (h.no rfl); exact br_f (h.yes rfl)
theorem br_d {p : Prop} {inst : Decidable p} {A B : Prop} (h1 : p → A) (h2 : ¬ p → B) : Br (decide p) A B := ⟨fun e => h1 (of_decide_eq_true e), fun e => h2 (of_decide_eq_false e)⟩
theorem br_p {p : Prop} {inst : Decidable p} {A B : Prop} (hp : p) (h : A) : Br (decide p) A B := br_d (fun _ => h) fun n => absurd hp n
theorem br_n {p : Prop} {inst : Decidable p} {A B : Prop} (hp : ¬ p) (h : B) : Br (decide p) A B := br_d (fun q => absurd q hp) fun _ => h
theorem br_bne {i : Int} {A B : Prop} (h : Br (decide (i ≠ 0)) A B) : Br (i != 0) A B := by
  have e : (i != 0) = decide (i ≠ 0) := by by_cases q : i = 0 <;> simp [q]
  rw [e]; exact h
theorem br_emp {xs : List D} {A B : Prop} (h : Br (decide (xs ≠ [])) A B) : Br (!xs.isEmpty) A B := by
  have e : (!xs.isEmpty) = decide (xs ≠ []) := by cases xs <;> simp
  rw [e]; exact h
theorem br_empL {l : List Int} {A B : Prop} (h : Br (decide (l ≠ [])) A B) : Br (!(Li l).isEmpty) A B := by
  have e : (!(Li l).isEmpty) = decide (l ≠ []) := by cases l <;> simp
  rw [e]; exact h
theorem br_nonT {x : D} {A B : Prop} (e : Px.isNon x = true) (h : A) : Br (Px.isNon x) A B := by rw [e]; exact br_t h
theorem br_nonF {x : D} {A B : Prop} (e : Px.isNon x = false) (h : B) : Br (Px.isNon x) A B := by rw [e]; exact br_f h
theorem br_blT {b : Bool} {x : D} {A B : Prop} (e : isBl b x = true) (h : A) : Br (isBl b x) A B := by rw [e]; exact br_t h
theorem br_blF {b : Bool} {x : D} {A B : Prop} (e : isBl b x = false) (h : B) : Br (isBl b x) A B := by rw [e]; exact br_f h
theorem isi_ooT {T : CT} {c c' : Str} {k : Bool → Prop} (e : T.sub c c' = some true) (e2 : (T.lookup c').isSome = true) (h : k true) : isiOO T c c' k := isi_oo e e2 h
theorem isi_ooF {T : CT} {c c' : Str} {k : Bool → Prop} (e : T.sub c c' = some false) (e2 : (T.lookup c').isSome = true) (h : k false) : isiOO T c c' k := isi_oo e e2 h
theorem isi_ttT {M : Mem} {x : D} {m : String} {k : Bool → Prop} {n : String} (e : tyD M x = some n) (e2 : kitB n m = some true) (h : k true) : isiTT M x m k := isi_tt e e2 h
theorem isi_ttF {M : Mem} {x : D} {m : String} {k : Bool → Prop} {n : String} (e : tyD M x = some n) (e2 : kitB n m = some false) (h : k false) : isiTT M x m k := isi_tt e e2 h
theorem isi_2T {M : Mem} {x : D} {m1 m2 : String} {k : Bool → Prop} {n : String} (e : tyD M x = some n) (e2 : kit2 n m1 m2 = some true) (h : k true) : isi2D M x m1 m2 k := isi_2 e e2 h
theorem isi_2F {M : Mem} {x : D} {m1 m2 : String} {k : Bool → Prop} {n : String} (e : tyD M x = some n) (e2 : kit2 n m1 m2 = some false) (h : k false) : isi2D M x m1 m2 k := isi_2 e e2 h
/-! ### loops -/
theorem Gd.mk {gd : List (Addr × List D)} {M : Mem} {P : Prop} (h : GdM gd M) (hp : P) : Gd gd M P := by
  induction gd with
  | nil => exact hp
  | cons p gs ih =>
    obtain ⟨a, ys⟩ := p
    exact ⟨h (a, ys) (by simp), ih fun p hp => h p (List.mem_cons_of_mem _ hp)⟩
theorem gd0 {M : Mem} : GdM [] M := fun p hp => by cases hp
theorem gd1 {M : Mem} {a : Addr} {ys : List D} (h : M a = some (.lst ys)) : GdM [(a, ys)] M := fun p hp => by
  rw [List.mem_singleton.mp hp]; exact h
theorem for_inv {gd : List (Addr × List D)} {tg : WG} {body : WS} {ks : List Nat} {P : Ps} {E : XP} {xs : List D} {ρ : St'} {M : Mem} (inv : Nat → St' → Mem → Prop) (h0 : inv 0 ρ M) (hg : ∀ i ρ M, inv i ρ M → GdM gd M)
    (step : ∀ i x ρ M, xs[i]? = some x → inv i ρ M → ∀ K : St' → Mem → Prop, (∀ ρ' M', inv (i + 1) ρ' M' → K ρ' M') →
      tg x ρ M (fun ρ2 M2 => body ρ2 M2 { nx := fun ρ3 M3 => K (wipe' ρ3 ks) M3, rt := P.rt, bk := fun ρ3 M3 => P.nx (wipe' ρ3 ks) M3, ct := fun ρ3 M3 => K (wipe' ρ3 ks) M3 } E) E)
    (last : ∀ ρ M, inv xs.length ρ M → P.nx ρ M) : loopS gd tg body ks P E xs ρ M := by
  have key : ∀ (n i : Nat) (ρ : St') (M : Mem), i + n = xs.length → inv i ρ M → loopS gd tg body ks P E (xs.drop i) ρ M := fun n => by
    induction n with
    | zero =>
      intro i ρ M hi h
      have e : i = xs.length := by omega
      subst e
      rw [List.drop_length]
      exact Gd.mk (hg _ _ _ h) (last _ _ h)
    | succ n ih =>
      intro i ρ M hi h
      have hlt : i < xs.length := by omega
      rw [List.drop_eq_getElem_cons hlt]
      exact Gd.mk (hg _ _ _ h) (step i _ ρ M (List.getElem?_eq_getElem hlt) h _ fun ρ' M' h' => ih (i + 1) ρ' M' (by omega) h')
  have := key xs.length 0 ρ M (by omega) h0
  rwa [List.drop_zero] at this
/-- the state behind each turn is known -/
theorem for_det {gd : List (Addr × List D)} {tg : WG} {body : WS} {ks : List Nat} {P : Ps} {E : XP} {xs : List D} {ρ : St'} {M : Mem} (r : Nat → St') (m : Nat → Mem) (h0 : r 0 = ρ) (h0' : m 0 = M) (hg : ∀ i, i ≤ xs.length → GdM gd (m i))
    (step : ∀ i x, xs[i]? = some x → ∀ K : St' → Mem → Prop, K (r (i + 1)) (m (i + 1)) →
      tg x (r i) (m i) (fun ρ2 M2 => body ρ2 M2 { nx := fun ρ3 M3 => K (wipe' ρ3 ks) M3, rt := P.rt, bk := fun ρ3 M3 => P.nx (wipe' ρ3 ks) M3, ct := fun ρ3 M3 => K (wipe' ρ3 ks) M3 } E) E)
    (last : P.nx (r xs.length) (m xs.length)) : loopS gd tg body ks P E xs ρ M := by
  refine for_inv (fun i ρ M => i ≤ xs.length ∧ ρ = r i ∧ M = m i) ⟨Nat.zero_le _, h0.symm, h0'.symm⟩ (fun i ρ M h => by rw [h.2.2]; exact hg i h.1) (fun i x ρ M hx h K hK => ?_) fun ρ M h => by rw [h.2.1, h.2.2]; exact last
  rw [h.2.1, h.2.2]
  exact step i x hx K (hK _ _ ⟨(List.getElem?_eq_some_iff.mp hx).1, rfl, rfl⟩)
theorem while_inv {c : WT} {body : WS} {ks : List Nat} {P : Ps} {E : XP} {ρ : St'} {M : Mem} (inv : Nat → St' → Mem → Prop) (m0 : Nat) (h0 : inv m0 (wipe' ρ ks) M)
    (step : ∀ m ρ M, inv m ρ M → ∀ K : St' → Mem → Prop, (∀ m' ρ' M', m' < m → inv m' ρ' M' → K ρ' M') →
      c ρ M (fun b M1 => Br b (body ρ M1 { nx := fun ρ3 M3 => K (wipe' ρ3 ks) M3, rt := P.rt, bk := fun ρ3 M3 => P.nx (wipe' ρ3 ks) M3, ct := fun ρ3 M3 => K (wipe' ρ3 ks) M3 } E) (P.nx ρ M1)) E) : wWhile c body ks ρ M P E := by
  refine ⟨m0 + 1, ?_⟩
  have key : ∀ (n m : Nat) (ρ : St') (M : Mem), m < n → inv m ρ M → whileN c body ks P E n ρ M := fun n => by
    induction n with
    | zero => intro m ρ M h; omega
    | succ n ih =>
      intro m ρ M hm h
      exact step m ρ M h _ fun m' ρ' M' h1 h2 => ih m' ρ' M' (by omega) h2
  exact key (m0 + 1) m0 _ M (by omega) h0
/-! ### comprehensions -/
section
variable {gd : List (Addr × List D)} {wg : WG} {wt : WT} {we : W} {ρw : St'} {k : List D → Mem → Prop} {xs : List D} {M : Mem}
theorem lc_inv (inv : Nat → List D → Mem → Prop) (h0 : inv 0 [] M) (hg : ∀ i acc M, inv i acc M → GdM gd M)
    (step : ∀ i x acc M, xs[i]? = some x → inv i acc M → ∀ K : List D → Mem → Prop, (∀ acc' M', inv (i + 1) acc' M' → K acc' M') →
      wg x ρw M (fun ρ2 M2 => wt ρ2 M2 (fun b M3 => Br b (we ρ2 M3 (fun y M4 => Sz (acc.length + 1) (K (acc ++ [y]) M4)) noX) (K acc M3)) noX) noX)
    (last : ∀ acc M, inv xs.length acc M → k acc M) : loopC gd wg wt we ρw k xs [] M := by
  have key : ∀ (n i : Nat) (acc : List D) (M : Mem), i + n = xs.length → inv i acc M → loopC gd wg wt we ρw k (xs.drop i) acc M := fun n => by
    induction n with
    | zero =>
      intro i acc M hi h
      have e : i = xs.length := by omega
      subst e
      rw [List.drop_length]
      exact Gd.mk (hg _ _ _ h) (last _ _ h)
    | succ n ih =>
      intro i acc M hi h
      have hlt : i < xs.length := by omega
      rw [List.drop_eq_getElem_cons hlt]
      exact Gd.mk (hg _ _ _ h) (step i _ acc M (List.getElem?_eq_getElem hlt) h (fun acc M => loopC gd wg wt we ρw k (xs.drop (i + 1)) acc M) fun ρ' M' h' => ih (i + 1) ρ' M' (by omega) h')
  have := key xs.length 0 [] M (by omega) h0
  rwa [List.drop_zero] at this
theorem lc_filterG (p : D → Bool) (f : D → D) (hg : GdM gd M) (hl : xs.length ≤ 16777216)
    (step : ∀ x, x ∈ xs → ∀ (K : D → Mem → Prop) (Z : Mem → Prop), (p x = true → K (f x) M) → (p x = false → Z M) → wg x ρw M (fun ρ2 M2 => wt ρ2 M2 (fun b M3 => Br b (we ρ2 M3 K noX) (Z M3)) noX) noX)
    (hk : k ((xs.filter p).map f) M) : loopC gd wg wt we ρw k xs [] M := by
  have key : ∀ (ys acc : List D), (∀ x ∈ ys, x ∈ xs) → acc.length + ys.length ≤ 16777216 → k (acc ++ (ys.filter p).map f) M → loopC gd wg wt we ρw k ys acc M := fun ys => by
    induction ys with
    | nil =>
      intro acc _ _ h
      exact Gd.mk hg (by simpa using h)
    | cons y ys ih =>
      intro acc hs hn h
      have hn' : acc.length + ys.length + 1 ≤ 16777216 := by rw [List.length_cons] at hn; omega
      refine Gd.mk hg (step y (hs y (by simp)) (fun y M4 => Sz (acc.length + 1) (loopC gd wg wt we ρw k ys (acc ++ [y]) M4)) (fun M3 => loopC gd wg wt we ρw k ys acc M3) (fun e => ?_) fun e => ?_)
      · refine sz (by omega) (ih (acc ++ [f y]) (fun x hx => hs x (List.mem_cons_of_mem _ hx)) (by rw [List.length_append]; show acc.length + 1 + ys.length ≤ _; omega) ?_)
        rw [List.filter_cons_of_pos e, List.map_cons] at h
        rw [List.append_assoc]
        exact h
      · refine ih acc (fun x hx => hs x (List.mem_cons_of_mem _ hx)) (by omega) ?_
        rw [List.filter_cons_of_neg (by rw [e]; exact Bool.false_ne_true)] at h
        exact h
  exact key xs [] (fun x h => h) (by simpa using hl) (by simpa using hk)
theorem lc_mapG (f : D → D) (hg : GdM gd M) (hl : xs.length ≤ 16777216)
    (step : ∀ x, x ∈ xs → ∀ (K : D → Mem → Prop) (Z : Mem → Prop), K (f x) M → wg x ρw M (fun ρ2 M2 => wYes ρ2 M2 (fun b M3 => Br b (we ρ2 M3 K noX) (Z M3)) noX) noX)
    (hk : k (xs.map f) M) : loopC gd wg wYes we ρw k xs [] M :=
  lc_filterG (fun _ => true) f hg hl (fun x hx K Z h _ => step x hx K Z (h rfl)) (by rw [List.filter_eq_self.mpr (fun _ _ => rfl)]; exact hk)
theorem mem_Li {l : List Int} {x : D} (h : x ∈ Li l) : ∃ i, i ∈ l ∧ x = .int i := by
  obtain ⟨i, h1, h2⟩ := List.mem_map.mp h
  exact ⟨i, h1, h2.symm⟩
def onI (f : Int → D) : D → D
  | .int i => f i
  | x => x
def onIB (p : Int → Bool) : D → Bool
  | .int i => p i
  | _ => false
theorem map_onI (f : Int → D) (l : List Int) : (Li l).map (onI f) = l.map f := by
  rw [List.map_map]; rfl
theorem filter_onI (p : Int → Bool) (l : List Int) : (Li l).filter (onIB p) = Li (l.filter p) := by
  rw [List.filter_map]; rfl
theorem Li_map (f : Int → Int) (l : List Int) : l.map (fun i => D.int (f i)) = Li (l.map f) := by
  show _ = List.map D.int (l.map f)
  rw [List.map_map]; rfl
/-- over a list of ints -/
theorem lc_int {l : List Int} (f : Int → D) (hg : GdM gd M) (hl : l.length ≤ 16777216)
    (step : ∀ i, i ∈ l → ∀ (K : D → Mem → Prop) (Z : Mem → Prop), K (f i) M → wg (.int i) ρw M (fun ρ2 M2 => wYes ρ2 M2 (fun b M3 => Br b (we ρ2 M3 K noX) (Z M3)) noX) noX)
    (hk : k (l.map f) M) : loopC gd wg wYes we ρw k (Li l) [] M :=
  lc_mapG (onI f) hg (by simpa using hl) (fun x hx K Z h => by
    obtain ⟨i, hi, rfl⟩ := mem_Li hx
    exact step i hi K Z h) (by rw [map_onI]; exact hk)
theorem lc_intI {l : List Int} (f : Int → Int) (hg : GdM gd M) (hl : l.length ≤ 16777216)
    (step : ∀ i, i ∈ l → ∀ (K : D → Mem → Prop) (Z : Mem → Prop), K (.int (f i)) M → wg (.int i) ρw M (fun ρ2 M2 => wYes ρ2 M2 (fun b M3 => Br b (we ρ2 M3 K noX) (Z M3)) noX) noX)
    (hk : k (Li (l.map f)) M) : loopC gd wg wYes we ρw k (Li l) [] M := lc_int (fun i => .int (f i)) hg hl step (by rw [Li_map]; exact hk)
theorem lc_filt {l : List Int} (p : Int → Bool) (f : Int → D) (hg : GdM gd M) (hl : l.length ≤ 16777216)
    (step : ∀ i, i ∈ l → ∀ (K : D → Mem → Prop) (Z : Mem → Prop), (p i = true → K (f i) M) → (p i = false → Z M) → wg (.int i) ρw M (fun ρ2 M2 => wt ρ2 M2 (fun b M3 => Br b (we ρ2 M3 K noX) (Z M3)) noX) noX)
    (hk : k ((l.filter p).map f) M) : loopC gd wg wt we ρw k (Li l) [] M :=
  lc_filterG (onIB p) (onI f) hg (by simpa using hl) (fun x hx K Z h1 h2 => by
    obtain ⟨i, hi, rfl⟩ := mem_Li hx
    exact step i hi K Z h1 h2) (by rw [filter_onI, map_onI]; exact hk)
theorem lc_filtI {l : List Int} (p : Int → Bool) (hg : GdM gd M) (hl : l.length ≤ 16777216)
    (step : ∀ i, i ∈ l → ∀ (K : D → Mem → Prop) (Z : Mem → Prop), (p i = true → K (.int i) M) → (p i = false → Z M) → wg (.int i) ρw M (fun ρ2 M2 => wt ρ2 M2 (fun b M3 => Br b (we ρ2 M3 K noX) (Z M3)) noX) noX)
    (hk : k (Li (l.filter p)) M) : loopC gd wg wt we ρw k (Li l) [] M := lc_filt p .int hg hl step hk
/-- nothing passes -/
theorem lc_none {l : List Int} (hg : GdM gd M) (hl : l.length ≤ 16777216)
    (step : ∀ i, i ∈ l → ∀ (K : D → Mem → Prop) (Z : Mem → Prop), Z M → wg (.int i) ρw M (fun ρ2 M2 => wt ρ2 M2 (fun b M3 => Br b (we ρ2 M3 K noX) (Z M3)) noX) noX)
    (hk : k (Li []) M) : loopC gd wg wt we ρw k (Li l) [] M := lc_filtI (fun _ => false) hg hl (fun i hi K Z _ h => step i hi K Z (h rfl)) (by
  have e : l.filter (fun _ => false) = [] := by induction l <;> simp_all
  rw [e]; exact hk)
theorem zipD_Li : ∀ (a b : List Int), zipD (Li a) (Li b) = (a.zip b).map fun q => D.tup [.int q.1, .int q.2]
  | [], _ => by simp [zipD]
  | _ :: _, [] => by simp [zipD]
  | x :: a, y :: b => by
    have z := zipD_Li a b
    simp only [List.map_cons, List.zip_cons_cons, zipD] at z ⊢
    rw [z]
/-- over a list whose items are told by others -/
theorem lc_any {α : Type} {l : List α} {g : α → D} (f : α → D) (hg : GdM gd M) (hl : l.length ≤ 16777216)
    (step : ∀ i, i ∈ l → ∀ (K : D → Mem → Prop) (Z : Mem → Prop), K (f i) M → wg (g i) ρw M (fun ρ2 M2 => wYes ρ2 M2 (fun b M3 => Br b (we ρ2 M3 K noX) (Z M3)) noX) noX)
    (hk : k (l.map f) M) : loopC gd wg wYes we ρw k (l.map g) [] M := by
  have key : ∀ (ys : List α) (acc : List D), (∀ x ∈ ys, x ∈ l) → acc.length + ys.length ≤ 16777216 → k (acc ++ ys.map f) M → loopC gd wg wYes we ρw k (ys.map g) acc M := fun ys => by
    induction ys with
    | nil =>
      intro acc _ _ h
      exact Gd.mk hg (by simpa using h)
    | cons y ys ih =>
      intro acc hs hn h
      have hn' : acc.length + ys.length + 1 ≤ 16777216 := by rw [List.length_cons] at hn; omega
      refine Gd.mk hg (step y (hs y (by simp)) (fun y M4 => Sz (acc.length + 1) (loopC gd wg wYes we ρw k (ys.map g) (acc ++ [y]) M4)) (fun M3 => loopC gd wg wYes we ρw k (ys.map g) acc M3) ?_)
      refine sz (by omega) (ih (acc ++ [f y]) (fun x hx => hs x (List.mem_cons_of_mem _ hx)) (by rw [List.length_append]; show acc.length + 1 + ys.length ≤ _; omega) ?_)
      rw [List.append_assoc]
      exact h
  exact key l [] (fun x h => h) (by simpa using hl) (by simpa using hk)
theorem lc_zipI {a b : List Int} (f : Int → Int → Int) (hg : GdM gd M) (hl : a.length ≤ 16777216)
    (step : ∀ i j, (i, j) ∈ a.zip b → ∀ (K : D → Mem → Prop) (Z : Mem → Prop), K (.int (f i j)) M → wg (.tup [.int i, .int j]) ρw M (fun ρ2 M2 => wYes ρ2 M2 (fun b M3 => Br b (we ρ2 M3 K noX) (Z M3)) noX) noX)
    (hk : k (Li (List.zipWith f a b)) M) : loopC gd wg wYes we ρw k (zipD (Li a) (Li b)) [] M := by
  rw [zipD_Li]
  refine lc_any (l := a.zip b) (fun q => .int (f q.1 q.2)) hg (by rw [List.length_zip]; omega) (fun q hq K Z h => step q.1 q.2 hq K Z h) ?_
  have e : (a.zip b).map (fun q => D.int (f q.1 q.2)) = Li (List.zipWith f a b) := by
    clear hk step hl
    induction a generalizing b with
    | nil => simp
    | cons x a ih =>
      cases b with
      | nil => simp
      | cons y b => simp only [List.zip_cons_cons, List.map_cons, List.zipWith_cons_cons]; rw [ih]
  rw [e]; exact hk
end
/-! ### storing fields -/
theorem fput_new {f : Str} {x : D} : ∀ {ns : List Str} {xs : List D}, ns.contains f = false → ns.length = xs.length → fput ns xs f x = (ns ++ [f], xs ++ [x])
  | [], [], _, _ => rfl
  | [], _ :: _, _, h => by simp at h
  | _ :: _, [], _, h => by simp at h
  | n :: ns, y :: ys, h, hl => by
    rw [List.contains_cons, Bool.or_eq_false_iff] at h
    have hn : n ≠ f := fun e => by subst e; simp at h
    simp only [fput, if_neg hn]
    rw [fput_new h.2 (by simpa using hl)]
    rfl
def fixB (f : Str) : List Str → Nat → Bool
  | n :: _, 0 => n == f
  | n :: ns, i + 1 => n != f && fixB f ns i
  | [], _ => false
theorem fput_set {f : Str} {x : D} : ∀ {ns : List Str} {xs : List D} {i : Nat}, fixB f ns i = true → ns.length = xs.length → fput ns xs f x = (ns, xs.set i x)
  | [], _, _, h, _ => by simp [fixB] at h
  | _ :: _, [], _, _, h => by simp at h
  | n :: ns, y :: ys, 0, h, hl => by
    have e : n = f := by simpa [fixB] using h
    simp only [fput, if_pos e, List.set_cons_zero]
  | n :: ns, y :: ys, i + 1, h, hl => by
    simp only [fixB, Bool.and_eq_true] at h
    have hn : n ≠ f := fun e => by subst e; simp at h
    simp only [fput, if_neg hn]
    rw [fput_set h.2 (by simpa using hl)]
    rfl
theorem att_new {cs : List Str} {a : Addr} {c f : Str} {y : D} {M : Mem} {ns : List Str} {xs : List D} {k : Mem → Prop} (e : ns.contains f = false) (hl : ns.length = xs.length) (hc : c ∈ cs) (hn : ns.length < 1000) (h : k (mu M a (.ins c (ns ++ [f]) (xs ++ [y])))) : attD cs (.ref a) f y (mu M a (.ins c ns xs)) k := att_mu (fput_new e hl) hc hn h
theorem att_set {cs : List Str} {a : Addr} {c f : Str} {y : D} {M : Mem} {ns : List Str} {xs : List D} {k : Mem → Prop} (i : Nat) (e : fixB f ns i = true) (hl : ns.length = xs.length) (hc : c ∈ cs) (hn : ns.length < 1000) (h : k (mu M a (.ins c ns (xs.set i y)))) : attD cs (.ref a) f y (mu M a (.ins c ns xs)) k := att_mu (fput_set e hl) hc hn h
theorem att_newO {cs : List Str} {a : Addr} {c f : Str} {y : D} {M : Mem} {ns : List Str} {xs : List D} {k : Mem → Prop} (e0 : M a = some (.ins c ns xs)) (e : ns.contains f = false) (hl : ns.length = xs.length) (hc : c ∈ cs) (hn : ns.length < 1000) (h : k (mu M a (.ins c (ns ++ [f]) (xs ++ [y])))) : attD cs (.ref a) f y M k := att_of e0 (fput_new e hl) hc hn h
theorem att_setO {cs : List Str} {a : Addr} {c f : Str} {y : D} {M : Mem} {ns : List Str} {xs : List D} {k : Mem → Prop} (e0 : M a = some (.ins c ns xs)) (i : Nat) (e : fixB f ns i = true) (hl : ns.length = xs.length) (hc : c ∈ cs) (hn : ns.length < 1000) (h : k (mu M a (.ins c ns (xs.set i y)))) : attD cs (.ref a) f y M k := att_of e0 (fput_set e hl) hc hn h
theorem eq_l0 {l : List Int} {M : Mem} {k : Bool → Prop} (h : k (decide (l = []))) : eqG (.lst (Li l)) (.lst []) M k := eq_ll (m := []) h
theorem eq_0l {l : List Int} {M : Mem} {k : Bool → Prop} (h : k (decide ([] = l))) : eqG (.lst []) (.lst (Li l)) M k := eq_ll (l := []) h
theorem eq_00 {M : Mem} {k : Bool → Prop} (h : k true) : eqG (.lst []) (.lst []) M k := eq_ll (l := []) (m := []) h
theorem eq_t0 {l : List Int} {M : Mem} {k : Bool → Prop} (h : k (decide (l = []))) : eqG (.tup (Li l)) (.tup []) M k := eq_tt (m := []) h
theorem eq_tG {xs ys : List D} {l m : List Int} {M : Mem} {k : Bool → Prop} (hx : xs = Li l) (hy : ys = Li m) (h : k (decide (l = m))) : eqG (.tup xs) (.tup ys) M k := by subst hx hy; exact eq_tt h
theorem eq_lG {xs ys : List D} {l m : List Int} {M : Mem} {k : Bool → Prop} (hx : xs = Li l) (hy : ys = Li m) (h : k (decide (l = m))) : eqG (.lst xs) (.lst ys) M k := by subst hx hy; exact eq_ll h
theorem mem_irng {lo i : Int} {n : Nat} (h : i ∈ irng lo n) : lo ≤ i ∧ i < lo + n := by
  unfold irng at h
  obtain ⟨j, h1, h2⟩ := List.mem_map.mp h
  have := List.mem_range.mp h1
  omega
theorem ints_cut {l : List Int} {a b : Option Int} {k : List Int → Prop} (h : k (Px.cutD l a b)) : intsD (Px.cutD (Li l) a b) k := ints_eq (cutD_map _ _ _ _) h
theorem lc_id {gd : List (Addr × List D)} {wg : WG} {wt : WT} {we : W} {ρw : St'} {k : List D → Mem → Prop} {xs acc : List D} {M : Mem} (h : loopC gd wg wt we ρw k xs acc M) : loopC gd wg wt we ρw k xs acc M := h
theorem irng_len (lo : Int) (n : Nat) : (irng lo n).length = n := by unfold irng; simp
theorem irng_at {lo : Int} {n i : Nat} (h : i < n) : (irng lo n)[i]? = some (lo + i) := by
  unfold irng
  rw [List.getElem?_map, List.getElem?_range h]
  rfl
theorem irngC_len (lo c : Int) (n : Nat) : (irngC lo c n).length = n := by unfold irngC; simp
theorem irngC_at {lo c : Int} {n i : Nat} (h : i < n) : (irngC lo c n)[i]? = some (lo + i * c) := by
  unfold irngC
  rw [List.getElem?_map, List.getElem?_range h]
  rfl
theorem mem_irngC {lo c i : Int} {n : Nat} (h : i ∈ irngC lo c n) : ∃ j : Nat, j < n ∧ i = lo + j * c := by
  unfold irngC at h
  obtain ⟨j, h1, h2⟩ := List.mem_map.mp h
  exact ⟨j, List.mem_range.mp h1, h2.symm⟩
/-- the first one that passes, of a list -/
theorem filter_head {l : List Int} {p : Int → Bool} {i : Nat} {x : Int} (h : l[i]? = some x) (hp : p x = true) (hn : ∀ j y, j < i → l[j]? = some y → p y = false) : (l.filter p)[0]? = some x := by
  rw [← List.head?_eq_getElem?, List.head?_filter, List.find?_eq_some_iff_getElem]
  obtain ⟨h1, h2⟩ := List.getElem?_eq_some_iff.mp h
  refine ⟨hp, i, h1, h2, fun j hj => ?_⟩
  rw [hn j _ hj (List.getElem?_eq_getElem (by omega))]
  rfl
theorem eq_pair {a b c d : Int} {M : Mem} {k : Bool → Prop} (h : k (decide ([a, b] = [c, d]))) : eqG (.tup [.int a, .int b]) (.tup [.int c, .int d]) M k := eq_tt (l := [a, b]) (m := [c, d]) h
theorem br_same {b c : Bool} {A B : Prop} (e : b = c) (h : A) : Br (b == c) A B := by subst e; rw [beq_self_eq_true]; exact br_t h
theorem br_isD {p : Prop} {inst : Decidable p} {A B : Prop} (hp : p) (h : A) : Br (isBl true (.bl (decide p))) A B := by
  have e : isBl true (.bl (decide p)) = true := by rw [decide_eq_true hp]; rfl
  rw [e]; exact br_t h
end Px

set_option Elab.async false
set_option linter.all false
set_option maxRecDepth 100000
set_option maxHeartbeats 4000000
/-! Tuples of whole numbers whose methods are called. -/
namespace Px
open PySem PySem.Spec PyProof.Rows L2 Rl RZ RT
section
variable {K : Frag} {L : XL}
def dTupX : D1 := fun x M k => asLL x M fun xs => intsD xs fun l => k (.tux l) M
theorem s_tupX : SdB K (qTupF K) (b1 dTupX) := sb1 fun G F H M x v k Q f ix h q => by
  obtain ⟨a, vs, xs, rfl, i1, r1, h⟩ := asLL_ok f ix h
  have h2 := intsD.get h; clear h
  obtain ⟨l, rfl, h⟩ := h2
  have e := IsAll.li l i1
  subst e
  exact ⟨a, _, rfl, Evl.sq_of r1, fun p o n hc hd => q _ _ (.ref p) _ M h (f.exl n) (f.laid n) (.tux o upd_same hc hd)⟩
/-- x is such a tuple -/
def tyX (x : D) (P : Prop) : Prop := match x with
  | .tux _ => P
  | _ => False
theorem tyX_ok {F H : Hp} {x : D} {v : V} {P : Prop} {G : Hp} {M : Mem} (f : Fr K G F H M) (i : Is K F v x) (h : tyX x P) : (∃ a o ws, v = .ref a ∧ H a = some (.frz o (.tup ws)) ∧ o.cls = .type "tuple" ∧ o.dict = none) ∧ P := by
  cases i with
  | tux o h1 h2 h3 => exact ⟨⟨_, o, _, rfl, f.fh _ _ h1, h2, h3⟩, h⟩
  | _ => cases h
@[irreducible] def hasI (l : List Int) (k : Int) (P : Prop) : Prop := k ∈ l ∧ P
theorem hasI.get {l : List Int} {k : Int} {P : Prop} (h : hasI l k P) : k ∈ l ∧ P := by unfold hasI at h; exact h
theorem hasI.of {l : List Int} {k : Int} {P : Prop} (h : k ∈ l) (p : P) : hasI l k P := by unfold hasI; exact ⟨h, p⟩
def dIdx : DM := fun x xs M k => match x, xs with
  | .tux l, [.int i] => hasI l i (k (.int (l.idxOf i : Nat)) M)
  | _, _ => False
theorem s_idx : SdM K (rIndexT K) dIdx := fun G F H M x v xs vs k Q f ix is h q => by
  unfold dIdx at h
  split at h
  · obtain ⟨hm, h⟩ := h.get
    cases is with
    | cons a b =>
      cases b
      cases a
      cases ix with
      | tux o a1 _ _ => exact ⟨_, _, _, rfl, rfl, .inl (.inr ⟨o, f.fh _ _ a1⟩), hm, lend f q (.int _) h⟩
  · exact h.elim
def wIdx (wo : W) (wa : WA) : W := fun ρ M k E => wo ρ M (fun x M1 => tyX x (wa ρ M1 (fun xs M2 => dIdx x xs M2 k) E)) E
theorem sd_idx {to : TE} {ta : TA} {wo : W} {wa : WA} (ho : Sd K L to wo) (ha : SdA K L ta wa) : Sd K L (tIdx K to ta) (wIdx wo wa) := fun G F H σ ρ M k E Q f s l h q =>
  ho G F H σ ρ M _ E _ f s l h fun F1 H1 v x M1 h1 e1 f1 i1 => by
    obtain ⟨ty, h2⟩ := tyX_ok f1 i1 h1
    exact ⟨ty, ha G F1 H1 σ ρ M1 _ E _ f1 (s.up e1) (L.mono l e1) h2 fun F2 H2 vs xs M2 h3 e2 f2 i2 => s_idx G F2 H2 M2 x v xs vs k Q f2 (i1.up e2) i2 h3 (q.up (e1.trans e2))⟩
/-! list(range(..)) -/
def rgL (i j : Int) : List Int := (List.range (j - i).toNat).map fun n => i + (n : Nat)
theorem rgV_eq (i j : Int) : rgV i j = (rgL i j).map V.int := by unfold rgV rgL; rw [List.map_map]; rfl
@[irreducible] def rgG (i j : Int) (P : Prop) : Prop := RgOk i j ∧ P
theorem rgG.get {i j : Int} {P : Prop} (h : rgG i j P) : RgOk i j ∧ P := by unfold rgG at h; exact h
theorem rgG.of {i j : Int} {P : Prop} (h : RgOk i j) (p : P) : rgG i j P := by unfold rgG; exact ⟨h, p⟩
def wLR2 (wa wb : W) : W := fun ρ M k E => wa ρ M (fun x M1 => wb ρ M1 (fun y M2 => asInt x fun i => asInt y fun j => rgG i j (k (.lst (Li (rgL i j))) M2)) E) E
def wLR1 (wb : W) : W := fun ρ M k E => wb ρ M (fun y M2 => asInt y fun j => rgG 0 j (k (.lst (Li (rgL 0 j))) M2)) E
theorem sd_lr2 {ta tb : TE} {wa wb : W} (ha : Sd K L ta wa) (hb : Sd K L tb wb) : Sd K L (tLstRg (tRg2 ta tb)) (wLR2 wa wb) := fun G F H σ ρ M k E Q f s l h q =>
  ha G F H σ ρ M _ E _ f s l h fun F1 H1 v x M1 h1 e1 f1 i1 => hb G F1 H1 σ ρ M1 _ E _ f1 (s.up e1) (L.mono l e1) h1 fun F2 H2 u y M2 h2 e2 f2 i2 => by
    obtain ⟨i, rfl, rfl, h2⟩ := asInt_ok (i1.up e2) h2
    obtain ⟨j, rfl, rfl, h2⟩ := asInt_ok i2 h2
    obtain ⟨h0, h2⟩ := h2.get
    exact ⟨i, j, rfl, rfl, h0, fun p n => q _ _ (.ref p) _ M2 h2 ((e1.trans e2).trans (f2.exl n)) (f2.laid n) (.lst upd_same (by rw [rgV_eq]; exact IsAll.of_li _))⟩
theorem sd_lr1 {tb : TE} {wb : W} (hb : Sd K L tb wb) : Sd K L (tLstRg (tRg1 tb)) (wLR1 wb) := fun G F H σ ρ M k E Q f s l h q =>
  hb G F H σ ρ M _ E _ f s l h fun F2 H2 u y M2 h2 e2 f2 i2 => by
    obtain ⟨j, rfl, rfl, h2⟩ := asInt_ok i2 h2
    obtain ⟨h0, h2⟩ := h2.get
    exact ⟨j, rfl, h0, fun p n => q _ _ (.ref p) _ M2 h2 (e2.trans (f2.exl n)) (f2.laid n) (.lst upd_same (by rw [rgV_eq]; exact IsAll.of_li _))⟩
end
end Px

set_option Elab.async false
set_option linter.all false
set_option maxRecDepth 100000
set_option maxHeartbeats 4000000
/-! A place in a list of texts; {..}.get(x, y). -/
namespace RT
open PySem PySem.Spec PyProof.Rows L2 Rl RZ
section
variable {X : Cx}
theorem strs_are : ∀ {ns : List Str} {us : List Value}, Vals (ns.map V.str) us → StrsAre us ns
  | [], _, h => by cases h; exact .nil
  | n :: ns, _, h => by
    cases h with
    | cons r t =>
      obtain ⟨q, rfl⟩ := r
      exact .cons n q (strs_are t)
def rIndexS (K : PySem.W.Frag) : V → List V → Hp → VK → Prop := fun x xs H Q => ∃ (a : Addr) (ns : List Str) (k : Str), x = .ref a ∧ xs = [.str k] ∧ SqL K H a (ns.map V.str) ∧ k ∈ ns ∧ Q (.int (ns.idxOf k : Nat)) H
theorem mt_indexS : MtR X "list.index" (rIndexS X.K) := by
  intro pins s σ H x xs v us Q I rx rxs h
  obtain ⟨a, ns, k, rfl, rfl, hs, hk, q⟩ := h
  cases rx
  obtain ⟨u, rfl, ru⟩ := Vals.one rxs
  obtain ⟨t, rfl⟩ := ru
  obtain ⟨its, rv, pl, hz⟩ := I.list hs
  exact SeqAt.list_index_strs (vs := its) pl.isList (strs_are rv) (by simpa using hz) hk ⟨.int _, H, I.tok _, ⟨_, rfl⟩, q⟩
/-- a dict of texts -/
def kvS (l : List (Str × Str)) : List (Key × V) := l.map fun p => (.inr p.1, V.str p.2)
def trsS (l : List (Str × Str)) : List (TE × TE) := l.map fun p => (tC (.str p.1), tC (.str p.2))
def dgV (l : List (Str × Str)) (s : Str) : Option V := valV (mergeK [] (kvS l)) (.inr s)
theorem pairs_c : ∀ (l : List (Str × Str)) (σ : L2.St) (H : Hp) (Q : List (V × V) → Hp → Prop), Q ((kvS l).map fun kv => (kV kv.1, kv.2)) H → tPairs (trsS l) σ H Q
  | [], _, _, _, h => h
  | p :: l, σ, H, Q, h => pairs_c l σ H _ h
end
end RT
namespace Px
open PySem PySem.Spec PyProof.Rows L2 Rl RZ RT
section
variable {K : Frag} {L : XL}
theorem all_str {F : Hp} : ∀ (l : List Str) {vs : List V}, IsAll K F vs (l.map D.str) → vs = l.map V.str
  | [], _, h => by cases h; rfl
  | x :: l, _, h => by
    cases h with
    | cons a b => cases a; rw [all_str l b]; rfl
@[irreducible] def hasS (l : List Str) (k : Str) (P : Prop) : Prop := k ∈ l ∧ P
theorem hasS.get {l : List Str} {k : Str} {P : Prop} (h : hasS l k P) : k ∈ l ∧ P := by unfold hasS at h; exact h
theorem hasS.of {l : List Str} {k : Str} {P : Prop} (h : k ∈ l) (p : P) : hasS l k P := by unfold hasS; exact ⟨h, p⟩
def dIdxS : DM := fun x xs M k => match x, xs with
  | .lst ys, [.str z] => strsD ys fun l => hasS l z (k (.int (l.idxOf z : Nat)) M)
  | _, _ => False
theorem s_idxS : SdM K (rIndexS K) dIdxS := fun G F H M x v xs vs k Q f ix is h q => by
  unfold dIdxS at h
  split at h
  · have h2 := strsD.get h; clear h
    obtain ⟨l, rfl, h⟩ := h2
    obtain ⟨hm, h⟩ := h.get
    cases is with
    | cons a b =>
      cases b
      cases a
      cases ix with
      | lst a1 a2 =>
        have e := all_str l a2
        subst e
        exact ⟨_, l, _, rfl, rfl, Evl.sq_of (f.fh _ _ a1), hm, lend f q (.int _) h⟩
  · exact h.elim
def dgD (o : Option V) (y : D) (k : D → Prop) : Prop := match o with
  | some (.str t) => k (.str t)
  | none => k y
  | _ => False
def wDG (l : List (Str × Str)) (wx wy : W) : W := fun ρ M k E => wx ρ M (fun x M1 => wy ρ M1 (fun y M2 => asStr x fun s => dgD (dgV l s) y fun z => k z M2) E) E
theorem sd_dg {l : List (Str × Str)} (hl : l.length ≤ 15) {tx ty : TE} {wx wy : W} (hx : Sd K L tx wx) (hy : Sd K L ty wy) : Sd K L (tDGet2 (tDisp (trsS l)) tx ty) (wDG l wx wy) := fun G F H σ ρ M k E Q f s lx h q => by
  intro p n
  refine pairs_c l σ (upd H p (.dK [])) _ ⟨upd_same, kvS l, rfl, by unfold kvS; rw [List.length_map]; exact hl, ?_⟩
  rw [upd_upd]
  have e0 := f.exl (o := .dK (mergeK [] (kvS l))) n
  refine ⟨p, rfl, .inl ⟨_, .inl upd_same⟩, ?_⟩
  refine hx G _ _ σ ρ M _ E _ (f.laid n) (s.up e0) (L.mono lx e0) h fun F1 H1 v x M1 h1 e1 f1 i1 => hy G F1 H1 σ ρ M1 _ E _ f1 (s.up (e0.trans e1)) (L.mono lx (e0.trans e1)) h1 fun F2 H2 u y M2 h2 e2 f2 i2 => ?_
  obtain ⟨z, rfl, rfl, h2⟩ := asStr_ok (i1.up e2) h2
  refine ⟨_, .k (k := .inr z) (f2.fh _ _ (e2 _ _ (e1 _ _ upd_same))), ?_⟩
  have h2 : dgD (valV (mergeK [] (kvS l)) (.inr z)) y fun z => k z M2 := h2
  revert h2
  cases valV (mergeK [] (kvS l)) (.inr z) with
  | none => exact fun h2 => q F2 H2 u y M2 h2 ((e0.trans e1).trans e2) f2 i2
  | some w =>
    cases w with
    | str t => exact fun h2 => q F2 H2 (.str t) (.str t) M2 h2 ((e0.trans e1).trans e2) f2 (.str t)
    | _ => exact fun h2 => h2.elim
end
end Px

set_option Elab.async false
set_option linter.all false
set_option maxRecDepth 100000
set_option maxHeartbeats 4000000
/-! enumerate of a tuple: it is made. -/
namespace RT
open PySem PySem.Spec PyProof.Rows L2 Rl RZ
open Sem (wp)
open AutoSeq1 (wpAny_loadPart')
theorem enum_newT (l : Addr) (items : Array Value) (n : Nat) (dct : Option Addr) (sl : Array (Option Value)) :
    Meets (Builtin.«enumerate.__new__» ⟨[.type "enumerate", .ref l], []⟩) (fun _ R s => s.heap.get? l = some { cls := .type "tuple", dict := dct, data := .seq items n, slots := sl } ∧
      R (.ok (.ret (.ref (s.heap.push { cls := .type "tuple_iterator", data := .fields #[.ref l, .int 0 0] }).objs.size)))
        { s with heap := (s.heap.push { cls := .type "tuple_iterator", data := .fields #[.ref l, .int 0 0] }).push { cls := .type "enumerate", data := .fields #[.none, .bool false, .ref s.heap.objs.size, rawInt 0, .none, .none] } }) :=
  .of_wp fun prog w A R s h => by
    obtain ⟨hp, g, d, tk, os⟩ := s; obtain ⟨hl, h⟩ := h
    have hsub := sub_enumerate
    have hT : IsTup (Shared.heap ⟨hp, g, d, tk, os⟩) l items := ⟨_, hl, rfl, n, rfl⟩
    wp_walk using wpAny_loadPart' hl
    refine wpAny_stack_any fun st => wpAny_pure ?_
    split
    · rename_i c _ _ _ _ _
      cases (c == Value.type "enumerate")
      · wp_walk using wpAny_loadPart' hl, iter_tuple hT
        exact ⟨_, rfl, h⟩
      · wp_walk using wpAny_loadPart' hl, iter_tuple hT
        exact ⟨_, rfl, h⟩
    · wp_walk using wpAny_loadPart' hl, iter_tuple hT
      exact ⟨_, rfl, h⟩
section
variable {prog : Program} {w : World} {A : Around} {E : Value → Shared → Prop} {s : Shared}
theorem call_enumerate_tup {l : Addr} {items : Array Value} {Q : Value → Shared → Prop} (hL : IsTup s.heap l items)
    (h : ∀ h', IsEnum h' (s.heap.objs.size + 1) s.heap.objs.size 0 .none → IsTupIter h' s.heap.objs.size l 0 → h'.objs.size = s.heap.objs.size + 2 →
      (∀ b o, s.heap.get? b = some o → h'.get? b = some o) → Q (.ref (s.heap.objs.size + 1)) { s with heap := h' }) :
    wpAny (model prog w) A (call (.type "enumerate") [.ref l]) Q E s := by
  obtain ⟨⟨c, dct, dt, sl⟩, hl, hc, n, hd⟩ := hL
  replace hc : c = .type "tuple" := hc
  replace hd : dt = .seq items n := hd
  subst hc hd
  refine callType_new F.called_enumerate (by decide) (F.typeCall_enumerate_1 _) (F.newCall_enumerate_1 _) (fun obj => F.args_object_init_2 obj _) F.entry_enumerate_new
    (enum_newT l items n dct sl) ⟨hl, ?_⟩
  have hz : (s.heap.push { cls := .type "tuple_iterator", data := .fields #[.ref l, .int 0 0] }).objs.size = s.heap.objs.size + 1 := Heap.size_push ..
  show _ ∧ _
  rw [hz]
  have he : IsEnum ((s.heap.push { cls := .type "tuple_iterator", data := .fields #[.ref l, .int 0 0] }).push
      { cls := .type "enumerate", data := .fields #[.none, .bool false, .ref s.heap.objs.size, rawInt 0, .none, .none] }) (s.heap.objs.size + 1) s.heap.objs.size 0 .none := by
    have := Heap.get?_push_size (s.heap.push { cls := .type "tuple_iterator", data := .fields #[.ref l, .int 0 0] })
      (o := { cls := .type "enumerate", data := .fields #[.none, .bool false, .ref s.heap.objs.size, rawInt 0, .none, .none] }) rfl
    rw [hz] at this; exact this
  refine ⟨⟨_, he, rfl⟩, h _ he ⟨_, Heap.get?_push_of_some _ (Heap.get?_push_size _ rfl), rfl, rfl⟩ (by rw [Heap.size_push, hz]) fun b o x => Heap.get?_push_of_some _ (Heap.get?_push_of_some _ x)⟩
end
section
variable {prog : Program} {w : World} {A : Around} {E : Value → Shared → Prop} {s : Shared}
theorem enum_endT {e it l : Addr} {i : Nat} {items : Array Value} {old : Value} {Q : Option Value → Shared → Prop} (hh : A.handled = none)
    (he : IsEnum s.heap e it i old) (hit : s.heap.IsTupleIter it l i) (hl : s.heap.IsTuple l items) (hx : items[i]? = none)
    (hQ : ∀ h', Heap.ExtBut it s.heap h' → Q none { s with heap := h' }) : wpAny (model prog w) A (pyNext (.ref e)) Q E s := by
  have hT : s.TypeIs (.ref e) "enumerate" := ⟨_, he, rfl⟩
  unfold pyNext
  refine wpAny_bind (wpAny_attempt (wpAny_callSpecial?_slot (name := Str.ofString "__next__") hT F.slot_enumerate_next
    (wpAny_call_entry F.slot_enumerate_next hT F.entry_enumerate_next ?_ (F.args_enumerate_next_1 _))))
  show wpAny _ _ (field (.ref e) 2 >>= _) _ _ _
  refine wpAny_bind (wpAny_field he rfl (x := .ref it) rfl ?_)
  refine wpAny_bind (wpAny_nextOf_tuple_end hh hit hl hx fun h' x he' hx' => ?_)
  obtain ⟨o, ho, hc⟩ := hx'
  refine wpAny_bind (wpAny_isInstance (T := "StopIteration") (b := true) ⟨o, ho, hc⟩ isSubtype_stop ?_)
  exact wpAny_pure (hQ _ he')
end
/-- the tuple at a, each item in a new pair -/
def IteT (K : PySem.W.Frag) (a : Addr) : It :=
  ⟨fun i H => ∃ (xs : List V) (x : V), SqT K H a xs ∧ xs[i]? = some x, fun i H v H' => ∃ T x, v = .ref T ∧ H T = none ∧ H' = upd H T (.tup [.int (i : Nat), x]) ∧ ∀ xs, SqT K H a xs → xs[i]? = some x, fun i H => ∃ xs : List V, SqT K H a xs ∧ xs.length ≤ i⟩
theorem apart {h : Heap} {a b : Addr} {S T : String} (ha : ∃ o, h.get? a = some o ∧ o.cls = .type S) (hb : ∃ o, h.get? b = some o ∧ o.cls = .type T) (hne : S ≠ T) : a ≠ b := by
  rintro rfl
  obtain ⟨o, e, c⟩ := ha
  obtain ⟨o', e', c'⟩ := hb
  rw [e] at e'; cases e'
  rw [c] at c'; cases c'
  exact hne rfl
theorem turn_enumT {P : Program} {w : World} {K : PySem.W.Frag} {elts : List Expr} {kk : Nat} {tpos : Pos} (a e it : Addr) :
    Turn P w K (.Tuple elts kk tpos) (IteT K a) [e, it] e (fun i h => (∃ old, IsEnum h e it ((i : Nat) : Int) old) ∧ h.IsTupleIter it a i ∧ e ≠ it) where
  mem := by simp
  obj := fun i h st b hb => by
    obtain ⟨⟨old, he⟩, ⟨o, ho, hc, hd⟩, _⟩ := st
    have e' : b = e ∨ b = it := by simpa using hb
    rcases e' with z | z
    · rw [z]; exact ⟨_, he, fun v q => nomatch q⟩
    · rw [z]; exact ⟨o, ho, fun v q => by rw [hd] at q; cases q⟩
  keep := fun i h h' st k => let ⟨⟨old, he⟩, ⟨o, ho, r⟩, hne⟩ := st; ⟨⟨old, k e (by simp) _ he⟩, ⟨o, k it (by simp) o ho, r⟩, hne⟩
  item := by
    intro X hP hw hK hc i pins s σ H E I hf st hg
    subst hP hw hK
    obtain ⟨⟨old, he⟩, hit, hne⟩ := st
    obtain ⟨xs, x, hq, hx⟩ := hg
    obtain ⟨its, rv, p, hz⟩ := I.tuple hq
    obtain ⟨u, hu, ru⟩ := rv.get hx
    have hel : e < s.heap.objs.size := Heap.lt_size he
    have hil : it < s.heap.objs.size := by obtain ⟨_, q, _⟩ := hit; exact Heap.lt_size q
    have ct : ∃ o, s.heap.get? a = some o ∧ o.cls = .type "tuple" := let ⟨o, h1, h2, _⟩ := p; ⟨o, h1, h2⟩
    have ci : ∃ o, s.heap.get? it = some o ∧ o.cls = .type "tuple_iterator" := let ⟨o, h1, h2, _⟩ := hit; ⟨o, h1, h2⟩
    have ce : ∃ o, s.heap.get? e = some o ∧ o.cls = .type "enumerate" := ⟨_, he, rfl⟩
    have D := Draws.tuple (prog := X.prog) (w := X.w) (A := X.A.in1) (I.ok.hd hc) it a (apart ct ci (by decide)) its.toArray
    have hef : e ∉ [it, a] := by
      have h1 := apart ce ci (by decide)
      have h2 := apart ce ct (by decide)
      simp [h1, h2]
    have hlt : i < its.toArray.size := by simpa using (List.getElem?_eq_some_iff.mp hu).1
    refine wpAny_pyNext_enum_itemD D he ⟨hit, p⟩ hlt hne hef fun u' h' tk hP' ho hst hT hsz hk => ?_
    have eu : u' = u := by
      have z : its.toArray[i]? = some u' := hP'
      rw [show its.toArray[i]? = some u by simpa using hu] at z
      exact (Option.some.inj z).symm
    subst eu
    refine ⟨_, rfl, wpAny_letOwnedTupleGo_enum (s := { s with heap := h', toks := tk + 1 }) ho fun h'' he' sb => ?_⟩
    have hT2 : h''.get? s.heap.objs.size = some { cls := .type "tuple", data := .seq #[.int i tk, u'] } := (sb.2 _ (Nat.ne_of_gt hel)).trans hT
    have new : ObjOk X.prog X.w (upd H s.heap.objs.size (.tup [.int (i : Nat), x])) h'' s.heap.objs.size (.tup [.int (i : Nat), x]) :=
      ⟨by show 2 ≤ sizeLine; decide, [.int i tk, u'], .cons ⟨_, rfl⟩ (.cons ru .nil), ⟨_, hT2, rfl, _, rfl⟩⟩
    have I1 : Inv X pins σ (upd H s.heap.objs.size (.tup [.int (i : Nat), x])) { s with heap := h'', toks := tk + 1 } :=
      I.turnedNew (ch := [e, it]) (fun b ob hb q => (sb.2 b (fun z => hb (by simp [z]))).trans (hk b ob (fun z => hb (by simp [z])) (fun z => hb (by simp [z])) q)) hf (Nat.le_refl _) new
    refine ⟨.ref s.heap.objs.size, _, I1, rfl, ⟨_, x, rfl, I.hok.fresh (Nat.le_refl _), rfl, fun ys hy => ?_⟩, ⟨⟨u', ?_⟩, ?_, hne⟩, fun b hb => ?_⟩
    · rw [I.tuple_inj hy hq]; exact hx
    · have e1 : ((i + 1 : Nat) : Int) = (i : Int) + 1 := by omega
      rw [e1]; exact he'
    · obtain ⟨⟨o, ho, r⟩, _⟩ := hst
      exact ⟨o, (sb.2 it (Ne.symm hne)).trans ho, r⟩
    · have hb' : b < s.heap.objs.size := by
        have e' : b = e ∨ b = it := by simpa using hb
        rcases e' with z | z
        · rw [z]; exact hel
        · rw [z]; exact hil
      rw [upd_ne (Nat.ne_of_lt hb')]
      exact (hf b hb).1
  done := by
    intro X hP hw hK hc i pins s σ H E I hf st hg
    subst hP hw hK
    obtain ⟨⟨old, he⟩, hit, hne⟩ := st
    obtain ⟨xs, hq, hx⟩ := hg
    obtain ⟨its, rv, p, hz⟩ := I.tuple hq
    obtain ⟨f0, f1, f2, f3, f4, f5⟩ := hf it (by simp)
    have hl := rv.length
    have hT : s.TypeIs (.ref e) "enumerate" := ⟨_, he, rfl⟩
    refine wpAny_mono (enum_endT (I.ok.hd hc) he hit p (by simp; omega) fun h' eb => (⟨rfl, I.turned (t' := s.toks) (fun b o hb q => eb b o hb q) f0 f1 f3 f4 f5⟩ : _)) (fun _ _ z => z) fun _ _ z => z
  self := fun A i s Q E st h => let ⟨⟨_, he⟩, _⟩ := st; wpAny_pyIter_enum he h
def iEnumT (K : PySem.W.Frag) (ta : TA) : TI := fun σ H R => ta σ H fun vs H1 => ∃ a, vs = [.ref a] ∧ (((∃ xs, SqL K H1 a xs) ∧ R (Ite K a) H1) ∨ ((∃ xs, SqT K H1 a xs) ∧ R (IteT K a) H1))
theorem pi_enumT {X : Cx} {e : Expr} {ta : TA} {p pos tpos : Pos} {elts : List Expr} {kk : Nat} (hg : Gl X "enumerate") (hm : X.mg "enumerate" = none) (ha : PA X [e] ta) (hs : starEach [e] X.env = [(false, eval e X.env)] := by rfl) :
    PI X (.Tuple elts kk tpos) (.Call (.Name "enumerate" p) [e] [] pos) (iEnumT X.K ta) := by
  refine ⟨fun pins s σ H R I h => ?_⟩
  refine Call_ (ld_blt I hg hm boot_enumerate (PyProof.Rows.callWith_type1 (thn (ha.run pos pins s σ H _ I h) fun us s1 ⟨vs, H1, I1, r1, q1⟩ => ?_) hs rfl))
  obtain ⟨a, ex, q⟩ := q1
  subst ex
  cases r1 with
  | cons r rr =>
    cases rr
    cases r
    have fin : ∀ b, b ∈ [s1.heap.objs.size + 1, s1.heap.objs.size] → s1.heap.objs.size ≤ b := fun b hb => by
      have e' : b = s1.heap.objs.size + 1 ∨ b = s1.heap.objs.size := by simpa using hb
      rcases e' with z | z
      · rw [z]; exact Nat.le_add_right _ _
      · rw [z]; exact Nat.le_refl _
    rcases q with ⟨⟨xs, hq⟩, q⟩ | ⟨⟨xs, hq⟩, q⟩
    · obtain ⟨its, rv, p', hz⟩ := I1.list hq
      refine call_enumerate_list p'.isList fun h' he hit hsz hk => wpAny_pyIter_enum he ?_
      have I2 : Inv X pins σ H1 { s1 with heap := h' } := I1.kept (t' := s1.toks) hk
      exact ⟨s1.heap.objs.size + 1, [s1.heap.objs.size + 1, s1.heap.objs.size], _, _, H1, rfl, I2, turn_enum a (s1.heap.objs.size + 1) s1.heap.objs.size, ⟨⟨.none, he⟩, hit, Nat.succ_ne_self _⟩, fun b hb => I1.fpOk (fin b hb) (I1.hok.fresh (fin b hb)), q⟩
    · obtain ⟨its, rv, p', hz⟩ := I1.tuple hq
      refine call_enumerate_tup p' fun h' he hit hsz hk => wpAny_pyIter_enum he ?_
      have I2 : Inv X pins σ H1 { s1 with heap := h' } := I1.kept (t' := s1.toks) hk
      exact ⟨s1.heap.objs.size + 1, [s1.heap.objs.size + 1, s1.heap.objs.size], _, _, H1, rfl, I2, turn_enumT a (s1.heap.objs.size + 1) s1.heap.objs.size, ⟨⟨.none, he⟩, hit, Nat.succ_ne_self _⟩, fun b hb => I1.fpOk (fin b hb) (I1.hok.fresh (fin b hb)), q⟩
end RT

set_option Elab.async false
set_option linter.all false
set_option maxRecDepth 100000
set_option maxHeartbeats 4000000
/-! enumerate of a list or a tuple. -/
namespace Px
open PySem PySem.Spec PyProof.Rows L2 Rl RZ RT
section
variable {K : Frag} {L : XL} {G F : Hp}
theorem itok_eT {a : Addr} {vs : List V} {xs : List D} (h : SqT K F a vs) (i1 : IsAll K F vs xs) : ItOk K G F (IteT K a) ⟨enumD 0 xs, []⟩ where
  go := fun i G1 F1 H1 M hi e f g => by
    have hi : i < (enumD 0 xs).length := hi
    rw [enumD_len] at hi
    exact ⟨vs, vs[i]'(by rw [i1.len]; exact hi), Evl.ex_t (e.trans f.fh) h, List.getElem?_eq_getElem _⟩
  stop := fun i G1 F1 H1 M hi e f g => by
    have hi : (enumD 0 xs).length ≤ i := hi
    rw [enumD_len] at hi
    exact ⟨vs, Evl.ex_t (e.trans f.fh) h, by rw [i1.len]; exact hi⟩
  yld := fun i G1 F1 H1 M v H2 x hx e f g ⟨T, x1, r1, r2, r3, r4⟩ => by
    subst r1 r3
    obtain ⟨dx, hx1, rfl⟩ := enumD_get hx
    obtain ⟨u1, hu1, is1⟩ := i1.get hx1
    rw [r4 vs (Evl.ex_t (e.trans f.fh) h)] at hu1; cases hu1
    rw [Nat.zero_add]
    exact ⟨_, f.exl r2, f.laid r2, .tup (SqT.of upd_same) (.cons (.int _) (.cons (is1.up (e.trans (f.exl r2))) .nil))⟩
def wiEnumT (wa : WA) : WI := fun ρ M k E => wa ρ M (fun xs M1 => match xs with
  | [.tup xs] => k ⟨enumD 0 xs, []⟩ M1
  | [x] => asL x M1 fun xs gd => k ⟨enumD 0 xs, gd⟩ M1
  | _ => False) E
theorem sdi_enumT {ta : TA} {wa : WA} (ha : SdA K L ta wa) : SdI K L (iEnumT K ta) (wiEnumT wa) := fun G F H σ ρ M k E R f s l h q =>
  ha G F H σ ρ M _ E _ f s l h fun F1 H1 vs xs M1 h1 e1 f1 i1 => by
    split at h1
    · cases i1 with
      | cons a b =>
        cases b
        cases a with
        | tup a1 a2 => exact ⟨_, rfl, .inr ⟨⟨_, Evl.ex_t f1.fh a1⟩, q F1 H1 _ _ M1 h1 e1 f1 (itok_eT a1 a2)⟩⟩
    · cases i1 with
      | cons a b =>
        cases b
        obtain ⟨a', xs, g1, rfl, la, gd1, h2⟩ := asL_ok f1 a h1
        obtain ⟨vs, p1, p2⟩ := la.get f1 gd1
        exact ⟨_, rfl, .inl ⟨⟨_, Evl.sq_of p1⟩, q F1 H1 _ _ M1 h2 e1 f1 (itok_e la)⟩⟩
    · exact h1.elim
end
end Px

set_option Elab.async false
set_option linter.all false
set_option maxRecDepth 100000
set_option maxHeartbeats 4000000
/-! Typed code and what it says of transformers: expressions. -/
namespace Ty
open PySem PySem.Spec PyProof.Rows L2 Rl RZ RT Px
inductive Res (α : Type) where
  | ok (a : α)
  | ex (x : Xn)
  | no

section
variable {α β γ : Type}
def Res.bind : Res α → (α → Res β) → Res β
  | .ok a, f => f a
  | .ex x, _ => .ex x
  | .no, _ => .no
def Res.wp (m : Res α) (Q : α → Prop) : Prop := match m with
  | .ok a => Q a
  | _ => False
theorem bind_ok (a : α) (f : α → Res β) : (Res.ok a).bind f = f a := rfl
theorem bind_no (f : α → Res β) : (Res.no).bind f = .no := rfl
theorem wp_ok {a : α} {Q : α → Prop} : (Res.ok a).wp Q = Q a := rfl
theorem bind_assoc (m : Res α) (f : α → Res β) (g : β → Res γ) : (m.bind f).bind g = m.bind fun a => (f a).bind g := by cases m <;> rfl
theorem wp_bind {m : Res α} {f : α → Res β} {Q : β → Prop} : (m.bind f).wp Q = m.wp fun a => (f a).wp Q := by cases m <;> rfl
theorem Res.wp.mono {m : Res α} {Q Q' : α → Prop} (h : m.wp Q) (q : ∀ a, Q a → Q' a) : m.wp Q' := by
  cases m with
  | ok a => exact q a h
  | _ => cases h
theorem Res.wp.get {m : Res α} {Q : α → Prop} (h : m.wp Q) : ∃ a, m = .ok a ∧ Q a := by
  cases m with
  | ok a => exact ⟨a, rfl, h⟩
  | _ => cases h
theorem wp_of {m : Res α} {Q : α → Prop} {a : α} (e : m = .ok a) (h : Q a) : m.wp Q := by rw [e]; exact h
end
/-! ### encodings -/
abbrev eN : Unit → D := fun _ => .non
abbrev eX : D → D := fun d => d
abbrev eL {τ : Type} (e : τ → D) : List τ → D := fun l => .lst (l.map e)
abbrev eT {τ : Type} (e : τ → D) : List τ → D := fun l => .tup (l.map e)
abbrev eT2 {τ1 τ2 : Type} (e1 : τ1 → D) (e2 : τ2 → D) : τ1 × τ2 → D := fun p => .tup [e1 p.1, e2 p.2]
abbrev eT3 {τ1 τ2 τ3 : Type} (e1 : τ1 → D) (e2 : τ2 → D) (e3 : τ3 → D) : τ1 × τ2 × τ3 → D := fun p => .tup [e1 p.1, e2 p.2.1, e3 p.2.2]
abbrev eT4 {τ1 τ2 τ3 τ4 : Type} (e1 : τ1 → D) (e2 : τ2 → D) (e3 : τ3 → D) (e4 : τ4 → D) : τ1 × τ2 × τ3 × τ4 → D := fun p => .tup [e1 p.1, e2 p.2.1, e3 p.2.2.1, e4 p.2.2.2]
abbrev eL2 {τ1 τ2 : Type} (e1 : τ1 → D) (e2 : τ2 → D) : τ1 × τ2 → D := fun p => .lst [e1 p.1, e2 p.2]
abbrev eL3 {τ1 τ2 τ3 : Type} (e1 : τ1 → D) (e2 : τ2 → D) (e3 : τ3 → D) : τ1 × τ2 × τ3 → D := fun p => .lst [e1 p.1, e2 p.2.1, e3 p.2.2]
def eO {τ : Type} (e : τ → D) : Option τ → D
  | none => .non
  | some x => e x
abbrev cL {τ : Type} (e : τ → D) : List τ → Cell := fun l => .lst (l.map e)
abbrev cL3 {τ1 τ2 τ3 : Type} (e1 : τ1 → D) (e2 : τ2 → D) (e3 : τ3 → D) : τ1 × τ2 × τ3 → Cell := fun p => .lst [e1 p.1, e2 p.2.1, e3 p.2.2]
/-! ### what code says of a transformer -/
section
variable {S τ β : Type}
def EJ (μ : S → Mem) (ρ : St') (s : S) (we : W) (e : τ → D) (C : (τ → S → Res β) → Res β) : Prop :=
  ∀ (k : D → Mem → Prop) (E : XP) (Q : β → Prop) (rest : τ → S → Res β), (C rest).wp Q → (∀ a s', (rest a s').wp Q → k (e a) (μ s')) → we ρ (μ s) k E
def TJ (μ : S → Mem) (ρ : St') (s : S) (wt : WT) (C : (Bool → S → Res β) → Res β) : Prop :=
  ∀ (k : Bool → Mem → Prop) (E : XP) (Q : β → Prop) (rest : Bool → S → Res β), (C rest).wp Q → (∀ a s', (rest a s').wp Q → k a (μ s')) → wt ρ (μ s) k E
def AJ (μ : S → Mem) (ρ : St') (s : S) (wa : WA) (e : τ → List D) (C : (τ → S → Res β) → Res β) : Prop :=
  ∀ (k : List D → Mem → Prop) (E : XP) (Q : β → Prop) (rest : τ → S → Res β), (C rest).wp Q → (∀ a s', (rest a s').wp Q → k (e a) (μ s')) → wa ρ (μ s) k E
def OJ (μ : S → Mem) (ρ : St') (s : S) (wo : WO) (C : (Option Int → S → Res β) → Res β) : Prop :=
  ∀ (k : Option Int → Mem → Prop) (E : XP) (Q : β → Prop) (rest : Option Int → S → Res β), (C rest).wp Q → (∀ a s', (rest a s').wp Q → k a (μ s')) → wo ρ (μ s) k E
def CJ (μ : S → Mem) (ρ : St') (s : S) (wc : WC) (e f : τ → List D) (C : (τ → S → Res β) → Res β) : Prop :=
  ∀ (k : List D → List D → Mem → Prop) (E : XP) (Q : β → Prop) (rest : τ → S → Res β), (C rest).wp Q → (∀ a s', (rest a s').wp Q → k (e a) (f a) (μ s')) → wc ρ (μ s) k E
def IJ (μ : S → Mem) (ρ : St') (s : S) (wi : WI) (e : τ → D) (C : (List τ → S → Res β) → Res β) : Prop :=
  ∀ (k : Its → Mem → Prop) (E : XP) (Q : β → Prop) (rest : List τ → S → Res β), (C rest).wp Q → (∀ a s', (rest a s').wp Q → k ⟨a.map e, []⟩ (μ s')) → wi ρ (μ s) k E
end
section
variable {S β : Type} {μ : S → Mem} {ρ : St'} {s : S}
/-! ### leaves -/
theorem ej_var {τ : Type} {e : τ → D} {i : Nat} (x : τ) (h : ρ[i]? = some (some (e x))) : EJ (β := β) μ ρ s (wVar i) e fun rest => rest x s := fun k E Q rest h1 h2 => by
  unfold wVar; rw [h]; exact h2 _ _ h1
theorem ej_int {i : Int} : EJ (β := β) μ ρ s (wC (.int i)) D.int fun rest => rest i s := fun k E Q rest h1 h2 => h2 _ _ h1
theorem ej_str {i : Str} : EJ (β := β) μ ρ s (wC (.str i)) D.str fun rest => rest i s := fun k E Q rest h1 h2 => h2 _ _ h1
theorem ej_bl {i : Bool} : EJ (β := β) μ ρ s (wC (.bl i)) D.bl fun rest => rest i s := fun k E Q rest h1 h2 => h2 _ _ h1
theorem ej_non : EJ (β := β) μ ρ s (wC .non) eN fun rest => rest () s := fun k E Q rest h1 h2 => h2 _ _ h1
theorem ej_c {d : D} : EJ (β := β) μ ρ s (wC d) (fun _ : Unit => d) fun rest => rest () s := fun k E Q rest h1 h2 => h2 _ _ h1
/-- another look at a datum -/
theorem ej_as {τ τ' : Type} {e : τ → D} {e' : τ' → D} (f : τ → τ') {we : W} {C : (τ → S → Res β) → Res β} (h : EJ μ ρ s we e C) (he : ∀ a, e a = e' (f a)) : EJ μ ρ s we e' fun rest => C fun a s1 => rest (f a) s1 := fun k E Q rest h1 h2 =>
  h k E Q _ h1 fun a s' h3 => by rw [he]; exact h2 _ _ h3
/-! ### operators -/
def O2 (β : Type) {τ1 τ2 τ : Type} (d : D2) (e1 : τ1 → D) (e2 : τ2 → D) (e : τ → D) (f : τ1 → τ2 → (τ → Res β) → Res β) : Prop :=
  ∀ a b M (k : D → Mem → Prop) (Q : β → Prop) (rest : τ → Res β), (f a b rest).wp Q → (∀ c, (rest c).wp Q → k (e c) M) → d (e1 a) (e2 b) M k
def O1 (β : Type) {τ1 τ : Type} (d : D1) (e1 : τ1 → D) (e : τ → D) (f : τ1 → (τ → Res β) → Res β) : Prop :=
  ∀ a M (k : D → Mem → Prop) (Q : β → Prop) (rest : τ → Res β), (f a rest).wp Q → (∀ c, (rest c).wp Q → k (e c) M) → d (e1 a) M k
def OB (β : Type) {τ1 τ : Type} (d : DA) (e1 : τ1 → List D) (e : τ → D) (f : τ1 → (τ → Res β) → Res β) : Prop :=
  ∀ a M (k : D → Mem → Prop) (Q : β → Prop) (rest : τ → Res β), (f a rest).wp Q → (∀ c, (rest c).wp Q → k (e c) M) → d (e1 a) M k
theorem ej_op {τ1 τ2 τ : Type} {d : D2} {e1 : τ1 → D} {e2 : τ2 → D} {e : τ → D} {f : τ1 → τ2 → (τ → Res β) → Res β} {wa wb : W} {Ca : (τ1 → S → Res β) → Res β} {Cb : τ1 → S → (τ2 → S → Res β) → Res β}
    (hd : O2 β d e1 e2 e f) (ha : EJ μ ρ s wa e1 Ca) (hb : ∀ a s1, EJ μ ρ s1 wb e2 (Cb a s1)) : EJ μ ρ s (wOp d wa wb) e fun rest => Ca fun a s1 => Cb a s1 fun b s2 => f a b fun c => rest c s2 := fun k E Q rest h q =>
  ha _ E Q _ h fun a s1 h1 => hb a s1 _ E Q _ h1 fun b s2 h2 => hd a b _ k Q _ h2 fun c h3 => q c s2 h3
theorem ej_un {τ1 τ : Type} {d : D1} {e1 : τ1 → D} {e : τ → D} {f : τ1 → (τ → Res β) → Res β} {wa : W} {Ca : (τ1 → S → Res β) → Res β}
    (hd : O1 β d e1 e f) (ha : EJ μ ρ s wa e1 Ca) : EJ μ ρ s (wUn d wa) e fun rest => Ca fun a s1 => f a fun c => rest c s1 := fun k E Q rest h q =>
  ha _ E Q _ h fun a s1 h1 => hd a _ k Q _ h1 fun c h3 => q c s1 h3
theorem ej_cb {τ1 τ : Type} {d : DA} {e1 : τ1 → List D} {e : τ → D} {f : τ1 → (τ → Res β) → Res β} {wa : WA} {Ca : (τ1 → S → Res β) → Res β}
    (hd : OB β d e1 e f) (ha : AJ μ ρ s wa e1 Ca) : EJ μ ρ s (wCB d wa) e fun rest => Ca fun a s1 => f a fun c => rest c s1 := fun k E Q rest h q =>
  ha _ E Q _ h fun a s1 h1 => hd a _ k Q _ h1 fun c h3 => q c s1 h3
theorem ej_cb1 {τ1 τ : Type} {d : D1} {e1 : τ1 → D} {e : τ → D} {f : τ1 → (τ → Res β) → Res β} {we : W} {Ca : (τ1 → S → Res β) → Res β}
    (hd : O1 β d e1 e f) (ha : EJ μ ρ s we e1 Ca) : EJ μ ρ s (wCB (b1 d) (waCons we waNil)) e fun rest => Ca fun a s1 => f a fun c => rest c s1 := fun k E Q rest h q =>
  ha _ E Q _ h fun a s1 h1 => hd a _ k Q _ h1 fun c h3 => q c s1 h3
/-! ### arguments -/
theorem aj_nil : AJ (β := β) μ ρ s waNil (fun _ : Unit => []) fun rest => rest () s := fun k E Q rest h q => q _ _ h
theorem aj_one {τ : Type} {e : τ → D} {we : W} {C : (τ → S → Res β) → Res β} (h : EJ μ ρ s we e C) : AJ μ ρ s (waCons we waNil) (fun x => [e x]) C := fun k E Q rest h1 q => h _ E Q _ h1 fun a s1 h2 => q _ _ h2
theorem aj_cons {τ1 τ2 : Type} {e : τ1 → D} {er : τ2 → List D} {we : W} {wr : WA} {Ca : (τ1 → S → Res β) → Res β} {Cb : τ1 → S → (τ2 → S → Res β) → Res β} (ha : EJ μ ρ s we e Ca) (hb : ∀ a s1, AJ μ ρ s1 wr er (Cb a s1)) :
    AJ μ ρ s (waCons we wr) (fun p : τ1 × τ2 => e p.1 :: er p.2) fun rest => Ca fun a s1 => Cb a s1 fun b s2 => rest (a, b) s2 := fun k E Q rest h1 q => ha _ E Q _ h1 fun a s1 h2 => hb a s1 _ E Q _ h2 fun b s2 h3 => q (a, b) _ h3
theorem aj_lnil {τ : Type} {e : τ → D} : AJ (β := β) μ ρ s waNil (List.map e) fun rest => rest [] s := fun k E Q rest h q => q _ _ h
theorem aj_lcons {τ1 : Type} {e : τ1 → D} {we : W} {wr : WA} {Ca : (τ1 → S → Res β) → Res β} {Cb : τ1 → S → (List τ1 → S → Res β) → Res β} (ha : EJ μ ρ s we e Ca) (hb : ∀ a s1, AJ μ ρ s1 wr (List.map e) (Cb a s1)) :
    AJ μ ρ s (waCons we wr) (List.map e) fun rest => Ca fun a s1 => Cb a s1 fun b s2 => rest (a :: b) s2 := fun k E Q rest h1 q => ha _ E Q _ h1 fun a s1 h2 => hb a s1 _ E Q _ h2 fun b s2 h3 => q (a :: b) _ h3
theorem ej_tup {τ : Type} {ea : τ → List D} {e : τ → D} {wa : WA} {C : (τ → S → Res β) → Res β} (h : AJ μ ρ s wa ea C) (hl : ∀ a, (ea a).length ≤ 16777216) (he : ∀ a, e a = .tup (ea a)) : EJ μ ρ s (wTup wa) e C := fun k E Q rest h1 q =>
  h _ E Q _ h1 fun a s1 h2 => sz (hl a) (by have z := q a s1 h2; rw [he] at z; exact z)
theorem ej_lst {τ : Type} {ea : τ → List D} {e : τ → D} {wa : WA} {C : (τ → S → Res β) → Res β} (h : AJ μ ρ s wa ea C) (hl : ∀ a, (ea a).length ≤ 16777216) (he : ∀ a, e a = .lst (ea a)) : EJ μ ρ s (wLst false wa) e C := fun k E Q rest h1 q =>
  h _ E Q _ h1 fun a s1 h2 => sz (hl a) (by have z := q a s1 h2; rw [he] at z; exact z)
/-- items of one kind, as many as are written -/
def LJ {S τ β : Type} (μ : S → Mem) (ρ : St') (s : S) (wa : WA) (e : τ → D) (n : Nat) (C : (List τ → S → Res β) → Res β) : Prop :=
  ∀ (k : List D → Mem → Prop) (E : XP) (Q : β → Prop) (rest : List τ → S → Res β), (C rest).wp Q → (∀ a s', a.length = n → (rest a s').wp Q → k (a.map e) (μ s')) → wa ρ (μ s) k E
theorem lj_nil {τ : Type} {e : τ → D} : LJ (β := β) μ ρ s waNil e 0 fun rest => rest [] s := fun k E Q rest h q => q _ _ rfl h
theorem lj_cons {τ : Type} {e : τ → D} {n : Nat} {we : W} {wr : WA} {Ca : (τ → S → Res β) → Res β} {Cb : τ → S → (List τ → S → Res β) → Res β} (ha : EJ μ ρ s we e Ca) (hb : ∀ a s1, LJ μ ρ s1 wr e n (Cb a s1)) :
    LJ μ ρ s (waCons we wr) e (n + 1) fun rest => Ca fun a s1 => Cb a s1 fun b s2 => rest (a :: b) s2 := fun k E Q rest h1 q => ha _ E Q _ h1 fun a s1 h2 => hb a s1 _ E Q _ h2 fun b s2 hl h3 => q (a :: b) _ (by rw [List.length_cons, hl]) h3
theorem ej_lstL {τ : Type} {e : τ → D} {wa : WA} {n : Nat} {C : (List τ → S → Res β) → Res β} (h : LJ μ ρ s wa e n C) (hn : n ≤ 16777216) : EJ μ ρ s (wLst false wa) (eL e) C := fun k E Q rest h1 q =>
  h _ E Q _ h1 fun a s1 hl h2 => sz (by rw [List.length_map]; omega) (q a s1 h2)
theorem ej_tupL {τ : Type} {e : τ → D} {wa : WA} {n : Nat} {C : (List τ → S → Res β) → Res β} (h : LJ μ ρ s wa e n C) (hn : n ≤ 16777216) : EJ μ ρ s (wTup wa) (eT e) C := fun k E Q rest h1 q =>
  h _ E Q _ h1 fun a s1 hl h2 => sz (by rw [List.length_map]; omega) (q a s1 h2)
/-! ### tests -/
theorem tj_test {we : W} {C : (Bool → S → Res β) → Res β} (h : EJ μ ρ s we D.bl C) : TJ μ ρ s (wTest we) C := fun k E Q rest h1 q => h _ E Q _ h1 fun a s1 h2 => q a s1 h2
theorem tj_not {wt : WT} {C : (Bool → S → Res β) → Res β} (h : TJ μ ρ s wt C) : TJ μ ρ s (wNot wt) fun rest => C fun b s1 => rest (!b) s1 := fun k E Q rest h1 q => h _ E Q _ h1 fun a s1 h2 => q _ s1 h2
/-- the second one says at once -/
theorem tj_andP {wa wb : WT} {Ca : (Bool → S → Res β) → Res β} {y : S → Bool} (ha : TJ μ ρ s wa Ca) (hb : ∀ s1, TJ (β := β) μ ρ s1 wb fun rest => rest (y s1) s1) : TJ μ ρ s (wAnd wa wb) fun rest => Ca fun x s1 => rest (x && y s1) s1 := fun k E Q rest h1 q =>
  ha _ E Q _ h1 fun x s1 h2 => by
    cases x with
    | true => exact br_t (hb s1 _ E Q _ h2 fun b s2 h3 => q b s2 h3)
    | false => exact br_f (q _ _ h2)
theorem tj_orP {wa wb : WT} {Ca : (Bool → S → Res β) → Res β} {y : S → Bool} (ha : TJ μ ρ s wa Ca) (hb : ∀ s1, TJ (β := β) μ ρ s1 wb fun rest => rest (y s1) s1) : TJ μ ρ s (wOr wa wb) fun rest => Ca fun x s1 => rest (x || y s1) s1 := fun k E Q rest h1 q =>
  ha _ E Q _ h1 fun x s1 h2 => by
    cases x with
    | true => exact br_t (q _ _ h2)
    | false => exact br_f (hb s1 _ E Q _ h2 fun b s2 h3 => q b s2 h3)
open Classical in
/-- code that leaves the state as it is, joined -/
theorem keep {τ : Type} {G : (τ → Mem → Prop) → Prop} {s1 : S} {C2 : (τ → S → Res τ) → Res τ} {C' : (τ → Res τ) → Res τ}
    (h : ∀ (k : τ → Mem → Prop) (Q : τ → Prop) (rest : τ → S → Res τ), (C2 rest).wp Q → (∀ a s', (rest a s').wp Q → k a (μ s')) → G k)
    (he : ∀ rest, C2 rest = C' fun y => rest y s1) {k : τ → Mem → Prop} {Q : τ → Prop} (h1 : (C' fun y => .ok y).wp Q) (q : ∀ a, Q a → k a (μ s1)) : G k := by
  refine h k Q (fun y s' => if s' = s1 then .ok y else .no) ?_ fun a s' h2 => ?_
  · rw [he]
    have e : (fun y : τ => if s1 = s1 then Res.ok y else Res.no) = fun y => .ok y := by funext y; rw [if_pos rfl]
    rw [e]; exact h1
  · by_cases c : s' = s1
    · subst c
      have h2 : (if s' = s' then Res.ok a else Res.no).wp Q := h2
      rw [if_pos rfl] at h2
      exact q a h2
    · have h2 : (if s' = s1 then Res.ok a else Res.no).wp Q := h2
      rw [if_neg c] at h2; cases h2
/-- the second one may fail -/
theorem tj_andS {wa wb : WT} {Ca : (Bool → S → Res β) → Res β} {Cb : S → (Bool → S → Res Bool) → Res Bool} (Cb' : S → (Bool → Res Bool) → Res Bool) (ha : TJ μ ρ s wa Ca) (hb : ∀ s1, TJ μ ρ s1 wb (Cb s1)) (he : ∀ s1 rest, Cb s1 rest = Cb' s1 fun y => rest y s1) :
    TJ μ ρ s (wAnd wa wb) fun rest => Ca fun x s1 => Res.bind (if x then Cb' s1 fun y => .ok y else .ok false) fun y => rest y s1 := fun k E Q rest h1 q =>
  ha _ E Q _ h1 fun x s1 h2 => by
    rw [wp_bind] at h2
    cases x with
    | true => exact br_t (keep (G := fun k => wb ρ (μ s1) k E) (fun k Q rest => hb s1 k E Q rest) (he s1) h2 fun a h3 => q a s1 h3)
    | false => exact br_f (q _ _ h2)
theorem tj_orS {wa wb : WT} {Ca : (Bool → S → Res β) → Res β} {Cb : S → (Bool → S → Res Bool) → Res Bool} (Cb' : S → (Bool → Res Bool) → Res Bool) (ha : TJ μ ρ s wa Ca) (hb : ∀ s1, TJ μ ρ s1 wb (Cb s1)) (he : ∀ s1 rest, Cb s1 rest = Cb' s1 fun y => rest y s1) :
    TJ μ ρ s (wOr wa wb) fun rest => Ca fun x s1 => Res.bind (if x then .ok true else Cb' s1 fun y => .ok y) fun y => rest y s1 := fun k E Q rest h1 q =>
  ha _ E Q _ h1 fun x s1 h2 => by
    rw [wp_bind] at h2
    cases x with
    | true => exact br_t (q _ _ h2)
    | false => exact br_f (keep (G := fun k => wb ρ (μ s1) k E) (fun k Q rest => hb s1 k E Q rest) (he s1) h2 fun a h3 => q a s1 h3)
/-! with a changed state -/
theorem tj_andE {wa wb : WT} {Ca : (Bool → S → Res β) → Res β} {Cb : S → (Bool → S → Res (Bool × S)) → Res (Bool × S)} (ha : TJ μ ρ s wa Ca) (hb : ∀ s1, TJ μ ρ s1 wb (Cb s1)) :
    TJ μ ρ s (wAnd wa wb) fun rest => Ca fun x s1 => Res.bind (if x then Cb s1 fun y s2 => .ok (y, s2) else .ok (false, s1)) fun p => rest p.1 p.2 := fun k E Q rest h1 q =>
  ha _ E Q _ h1 fun x s1 h2 => by
    rw [wp_bind] at h2
    cases x with
    | true => exact br_t (hb s1 k E _ _ h2 fun a s' h3 => q a s' h3)
    | false => exact br_f (q _ _ h2)
theorem tj_orE {wa wb : WT} {Ca : (Bool → S → Res β) → Res β} {Cb : S → (Bool → S → Res (Bool × S)) → Res (Bool × S)} (ha : TJ μ ρ s wa Ca) (hb : ∀ s1, TJ μ ρ s1 wb (Cb s1)) :
    TJ μ ρ s (wOr wa wb) fun rest => Ca fun x s1 => Res.bind (if x then .ok (true, s1) else Cb s1 fun y s2 => .ok (y, s2)) fun p => rest p.1 p.2 := fun k E Q rest h1 q =>
  ha _ E Q _ h1 fun x s1 h2 => by
    rw [wp_bind] at h2
    cases x with
    | true => exact br_t (q _ _ h2)
    | false => exact br_f (hb s1 k E _ _ h2 fun a s' h3 => q a s' h3)
/-! a if t else b -/
theorem ej_ifP {τ : Type} {e : τ → D} {wt : WT} {wa wb : W} {Ct : (Bool → S → Res β) → Res β} {x y : S → τ} (ht : TJ μ ρ s wt Ct) (ha : ∀ s1, EJ (β := β) μ ρ s1 wa e fun rest => rest (x s1) s1) (hb : ∀ s1, EJ (β := β) μ ρ s1 wb e fun rest => rest (y s1) s1) :
    EJ μ ρ s (wIf wt wa wb) e fun rest => Ct fun b s1 => rest (if b then x s1 else y s1) s1 := fun k E Q rest h1 q =>
  ht _ E Q _ h1 fun b s1 h2 => by
    cases b with
    | true => exact br_t (ha s1 _ E Q _ h2 q)
    | false => exact br_f (hb s1 _ E Q _ h2 q)
theorem ej_ifS {τ : Type} {e : τ → D} {wt : WT} {wa wb : W} {Ct : (Bool → S → Res β) → Res β} {Ca Cb : S → (τ → S → Res τ) → Res τ} (Ca' Cb' : S → (τ → Res τ) → Res τ) (ht : TJ μ ρ s wt Ct) (ha : ∀ s1, EJ μ ρ s1 wa e (Ca s1)) (hb : ∀ s1, EJ μ ρ s1 wb e (Cb s1)) (hea : ∀ s1 rest, Ca s1 rest = Ca' s1 fun y => rest y s1) (heb : ∀ s1 rest, Cb s1 rest = Cb' s1 fun y => rest y s1) :
    EJ μ ρ s (wIf wt wa wb) e fun rest => Ct fun b s1 => Res.bind (if b then Ca' s1 fun y => .ok y else Cb' s1 fun y => .ok y) fun y => rest y s1 := fun k E Q rest h1 q =>
  ht _ E Q _ h1 fun b s1 h2 => by
    rw [wp_bind] at h2
    cases b with
    | true => exact br_t (keep (G := fun k' => (∀ d M, k' d M → k (e d) M) → wa ρ (μ s1) k E) (k := fun a M => k (e a) M) (fun k' Q rest g g' hk => ha s1 k E Q rest g fun a s' z => hk _ _ (g' a s' z)) (hea s1) h2 (fun a h3 => q a s1 h3) fun _ _ z => z)
    | false => exact br_f (keep (G := fun k' => (∀ d M, k' d M → k (e d) M) → wb ρ (μ s1) k E) (k := fun a M => k (e a) M) (fun k' Q rest g g' hk => hb s1 k E Q rest g fun a s' z => hk _ _ (g' a s' z)) (heb s1) h2 (fun a h3 => q a s1 h3) fun _ _ z => z)
theorem ej_ifE {τ : Type} {e : τ → D} {wt : WT} {wa wb : W} {Ct : (Bool → S → Res β) → Res β} {Ca Cb : S → (τ → S → Res (τ × S)) → Res (τ × S)} (ht : TJ μ ρ s wt Ct) (ha : ∀ s1, EJ μ ρ s1 wa e (Ca s1)) (hb : ∀ s1, EJ μ ρ s1 wb e (Cb s1)) :
    EJ μ ρ s (wIf wt wa wb) e fun rest => Ct fun b s1 => Res.bind (if b then Ca s1 fun y s2 => .ok (y, s2) else Cb s1 fun y s2 => .ok (y, s2)) fun p => rest p.1 p.2 := fun k E Q rest h1 q =>
  ht _ E Q _ h1 fun b s1 h2 => by
    rw [wp_bind] at h2
    cases b with
    | true => exact br_t (ha s1 k E _ _ h2 fun a s' h3 => q a s' h3)
    | false => exact br_f (hb s1 k E _ _ h2 fun a s' h3 => q a s' h3)
end
end Ty

set_option Elab.async false
set_option linter.all false
set_option maxRecDepth 100000
set_option maxHeartbeats 4000000
/-! Operators and built-ins over typed values. -/
namespace Ty
open PySem PySem.Spec PyProof.Rows L2 Rl RZ RT Px
/-! ### what may fail, as code -/
def mulR (a b : Int) : Res Int := if (a.natAbs < 2 ^ 64 ∨ b.natAbs < 2 ^ 64) ∨ a.natAbs.log2 + b.natAbs.log2 + 2 ≤ 1000000 then .ok (a * b) else .no
def fdR (a b : Int) : Res Int := if 0 < b ∧ b.natAbs.log2 < 9000 then .ok (a / b) else .no
def mdR (a b : Int) : Res Int := if 0 < b then .ok (a % b) else .no
def pwR (a b : Int) : Res Int := if 0 ≤ b ∧ b ≤ 1000000 ∧ a.natAbs < 2 ^ 64 then .ok (a ^ b.toNat) else .no
def addS (a b : Str) : Res Str := if a.length + b.length ≤ 16777216 then .ok (a ++ b) else .no
def addL {τ : Type} (a b : List τ) : Res (List τ) := if a.length + b.length ≤ 16777216 then .ok (a ++ b) else .no
def repL {τ : Type} (a : List τ) (j : Int) : Res (List τ) := if (-(2 ^ 63) ≤ j ∧ j < 2 ^ 63) ∧ a.length * j.toNat ≤ 16777216 then .ok (List.replicate j.toNat a).flatten else .no
def ixR {τ : Type} (l : List τ) (i : Int) : Res τ := match atI l i with
  | some a => .ok a
  | none => .no
def appR {τ : Type} (l : List τ) (a : τ) : Res (List τ) := if l.length + 1 ≤ 16777216 then .ok (l ++ [a]) else .no
def setR {τ : Type} (l : List τ) (i : Int) (a : τ) : Res (List τ) := match ixN l.length i with
  | some n => .ok (l.set n a)
  | none => .no
def maxL : List Int → Int
  | [] => 0
  | [x] => x
  | x :: xs => max x (maxL xs)
def minL : List Int → Int
  | [] => 0
  | [x] => x
  | x :: xs => min x (minL xs)
def maxR (l : List Int) : Res Int := if l = [] then .no else .ok (maxL l)
def minR (l : List Int) : Res Int := if l = [] then .no else .ok (minL l)
def sortL (l : List Int) : List Int := l.mergeSort fun a b => decide (a ≤ b)
def sortR (l : List Int) : Res (List Int) := if l.length < 64 then .ok (sortL l) else .no
def strR (i : Int) : Res Str := if i.natAbs < 10 ^ 100 then .ok (toString i) else .no
def joinR (a : Str) (l : List Str) : Res Str := if (l.map (·.length)).sum + l.length * a.length ≤ 16777216 then .ok (Txt.join a l) else .no
def rngR (a b : Int) : Res (List Int) := if (-(2 ^ 62) ≤ a ∧ a < 2 ^ 62) ∧ (-(2 ^ 62) ≤ b ∧ b < 2 ^ 62) then .ok (irng a (b - a).toNat) else .no
theorem mem_maxL : ∀ {l : List Int}, l ≠ [] → maxL l ∈ l
  | [], h => absurd rfl h
  | [x], _ => by simp [maxL]
  | x :: y :: l, _ => by
    have ih := mem_maxL (l := y :: l) (by simp)
    show max x (maxL (y :: l)) ∈ _
    by_cases c : x ≤ maxL (y :: l)
    · rw [Int.max_eq_right c]; exact List.mem_cons_of_mem _ ih
    · rw [Int.max_eq_left (by omega)]; simp
theorem le_maxL : ∀ {l : List Int} {y : Int}, y ∈ l → y ≤ maxL l
  | [], _, h => by cases h
  | [x], y, h => by simp at h; subst h; exact Int.le_refl _
  | x :: z :: l, y, h => by
    show y ≤ max x (maxL (z :: l))
    rcases List.mem_cons.mp h with e | e
    · subst e; exact Int.le_max_left ..
    · exact Int.le_trans (le_maxL e) (Int.le_max_right ..)
theorem mem_minL : ∀ {l : List Int}, l ≠ [] → minL l ∈ l
  | [], h => absurd rfl h
  | [x], _ => by simp [minL]
  | x :: y :: l, _ => by
    have ih := mem_minL (l := y :: l) (by simp)
    show min x (minL (y :: l)) ∈ _
    by_cases c : x ≤ minL (y :: l)
    · rw [Int.min_eq_left c]; simp
    · rw [Int.min_eq_right (by omega)]; exact List.mem_cons_of_mem _ ih
theorem minL_le : ∀ {l : List Int} {y : Int}, y ∈ l → minL l ≤ y
  | [], _, h => by cases h
  | [x], y, h => by simp at h; subst h; exact Int.le_refl _
  | x :: z :: l, y, h => by
    show min x (minL (z :: l)) ≤ y
    rcases List.mem_cons.mp h with e | e
    · subst e; exact Int.min_le_left ..
    · exact Int.le_trans (Int.min_le_right ..) (minL_le e)
theorem is_maxL {l : List Int} {k : Int → Prop} (h : l ≠ []) (hk : k (maxL l)) : isMax l k := max_of (by cases l <;> simp_all) fun m hm hy => by
  have e : m = maxL l := Int.le_antisymm (le_maxL hm) (hy _ (mem_maxL h))
  rw [e]; exact hk
theorem is_minL {l : List Int} {k : Int → Prop} (h : l ≠ []) (hk : k (minL l)) : isMin l k := min_of (by cases l <;> simp_all) fun m hm hy => by
  have e : m = minL l := Int.le_antisymm (hy _ (mem_minL h)) (minL_le hm)
  rw [e]; exact hk
theorem sortL_perm (l : List Int) : (sortL l).Perm l := List.mergeSort_perm _ _
theorem sortL_sorted (l : List Int) : (sortL l).Pairwise (· ≤ ·) := by
  have h := List.pairwise_mergeSort (le := fun a b : Int => decide (a ≤ b)) (fun a b c h1 h2 => by simp at *; omega) (fun a b => by simp; omega) l
  exact h.imp fun hab => by simpa using hab
theorem perm_sorted_eq : ∀ {l m : List Int}, l.Perm m → l.Pairwise (· ≤ ·) → m.Pairwise (· ≤ ·) → l = m := fun p h1 h2 => p.eq_of_pairwise (fun a b _ _ h3 h4 => Int.le_antisymm h3 h4) h1 h2
theorem is_sortL {l : List Int} {k : List Int → Prop} (h : l.length < 64) (hk : k (sortL l)) : sortI l k := sort_of h fun l' p s => by
  rw [perm_sorted_eq (p.trans (sortL_perm l).symm) s (sortL_sorted l)]; exact hk
theorem atI_map' {α γ : Type} (e : α → γ) (l : List α) (i : Int) : atI (l.map e) i = (atI l i).map e := by
  unfold atI
  rw [List.length_map]
  cases ixN l.length i <;> simp
section
variable {β : Type}
theorem ite_wp {τ : Type} {c : Prop} [Decidable c] {a : τ} {f : τ → Res β} {Q : β → Prop} (h : (Res.bind (if c then Res.ok a else .no) f).wp Q) : c ∧ (f a).wp Q := by
  by_cases q : c
  · rw [if_pos q] at h; exact ⟨q, h⟩
  · rw [if_neg q] at h; cases h
/-! ### numbers -/
theorem o_add {m : Bool} : O2 β (dAdd m) D.int D.int D.int fun a b rest => rest (a + b) := fun a b M k Q rest h q => q _ h
theorem o_sub : O2 β dSub D.int D.int D.int fun a b rest => rest (a - b) := fun a b M k Q rest h q => q _ h
theorem o_mul {m : Bool} : O2 β (dMulT m) D.int D.int D.int fun a b rest => (mulR a b).bind rest := fun a b M k Q rest h q => by
  obtain ⟨h1, h2⟩ := ite_wp h
  rcases h1 with (h1 | h1) | h1
  · exact mul_l (by omega) (q _ h2)
  · exact mul_r (by omega) (q _ h2)
  exact mul_w (n := a.natAbs.log2 + 1) (m := b.natAbs.log2 + 1) Nat.lt_log2_self Nat.lt_log2_self (by omega) (by omega) (by omega) (q _ h2)
theorem o_fd : O2 β dFd D.int D.int D.int fun a b rest => (fdR a b).bind rest := fun a b M k Q rest h q => by
  obtain ⟨h1, h2⟩ := ite_wp h
  show fdD a b _
  unfold fdD
  exact .inl ⟨h1.1, h1.2, q _ h2⟩
theorem o_md : O2 β dMd D.int D.int D.int fun a b rest => (mdR a b).bind rest := fun a b M k Q rest h q => by
  obtain ⟨h1, h2⟩ := ite_wp h
  exact md_pos h1 (q _ h2)
theorem o_pw : O2 β dPw D.int D.int D.int fun a b rest => (pwR a b).bind rest := fun a b M k Q rest h q => by
  obtain ⟨h1, h2⟩ := ite_wp h
  exact pw_of ⟨h1.1, h1.2.1⟩ h1.2.2 (q _ h2)
theorem o_neg : O1 β dNeg D.int D.int fun a rest => rest (-a) := fun a M k Q rest h q => q _ h
theorem o_abs : O1 β dAbs D.int D.int fun a rest => rest (a.natAbs : Int) := fun a M k Q rest h q => q _ h
theorem o_lt : O2 β dLt D.int D.int D.bl fun a b rest => rest (decide (a < b)) := fun a b M k Q rest h q => q _ h
theorem o_le : O2 β dLe D.int D.int D.bl fun a b rest => rest (decide (a ≤ b)) := fun a b M k Q rest h q => q _ h
theorem o_gt : O2 β dGt D.int D.int D.bl fun a b rest => rest (decide (a > b)) := fun a b M k Q rest h q => q _ h
theorem o_ge : O2 β dGe D.int D.int D.bl fun a b rest => rest (decide (a ≥ b)) := fun a b M k Q rest h q => q _ h
theorem o_int : O1 β dInt D.int D.int fun a rest => rest a := fun a M k Q rest h q => q _ h
theorem o_intB : O1 β dInt D.bl D.int fun a rest => rest (if a then 1 else 0) := fun a M k Q rest h q => q _ h
theorem o_bool : O1 β dBool D.int D.bl fun a rest => rest (a != 0) := fun a M k Q rest h q => q _ h
theorem o_boolB : O1 β dBool D.bl D.bl fun a rest => rest a := fun a M k Q rest h q => q _ h
theorem o_str : O1 β dStr D.int D.str fun a rest => (strR a).bind rest := fun a M k Q rest h q => by
  obtain ⟨h1, h2⟩ := ite_wp h
  exact str_of h1 (q _ h2)
theorem o_max2 : OB β dMaxT (fun p : Int × Int => [.int p.1, .int p.2]) D.int fun p rest => rest (max p.1 p.2) := fun a M k Q rest h q => q _ h
theorem o_min2 : OB β dMinT (fun p : Int × Int => [.int p.1, .int p.2]) D.int fun p rest => rest (min p.1 p.2) := fun a M k Q rest h q => q _ h
theorem o_maxL : OB β dMaxT (fun l : List Int => [eL D.int l]) D.int fun l rest => (maxR l).bind rest := fun a M k Q rest h q => by
  have h : (Res.bind (if a = [] then Res.no else .ok (maxL a)) rest).wp Q := h
  by_cases c : a = []
  · rw [if_pos c] at h; cases h
  · rw [if_neg c] at h; exact ints_of (is_maxL c (q _ h))
theorem o_minL : OB β dMinT (fun l : List Int => [eL D.int l]) D.int fun l rest => (minR l).bind rest := fun a M k Q rest h q => by
  have h : (Res.bind (if a = [] then Res.no else .ok (minL a)) rest).wp Q := h
  by_cases c : a = []
  · rw [if_pos c] at h; cases h
  · rw [if_neg c] at h; exact ints_of (is_minL c (q _ h))
theorem o_maxT : OB β dMaxT (fun l : List Int => [eT D.int l]) D.int fun l rest => (maxR l).bind rest := fun a M k Q rest h q => by
  have h : (Res.bind (if a = [] then Res.no else .ok (maxL a)) rest).wp Q := h
  by_cases c : a = []
  · rw [if_pos c] at h; cases h
  · rw [if_neg c] at h; exact ints_of (is_maxL c (q _ h))
theorem o_minT : OB β dMinT (fun l : List Int => [eT D.int l]) D.int fun l rest => (minR l).bind rest := fun a M k Q rest h q => by
  have h : (Res.bind (if a = [] then Res.no else .ok (minL a)) rest).wp Q := h
  by_cases c : a = []
  · rw [if_pos c] at h; cases h
  · rw [if_neg c] at h; exact ints_of (is_minL c (q _ h))
/-! ### truth -/
def O1T (β : Type) {τ1 : Type} (e1 : τ1 → D) (f : τ1 → Bool) : Prop := ∀ a M (k : Bool → Prop), k (f a) → trD (e1 a) M k
theorem t_bl : O1T β D.bl fun a => a := fun a M k h => h
theorem t_int : O1T β D.int fun a => a != 0 := fun a M k h => h
theorem t_L {τ : Type} {e : τ → D} : O1T β (eL e) fun a => !a.isEmpty := fun a M k h => by cases a <;> exact h
theorem t_T {τ : Type} {e : τ → D} : O1T β (eT e) fun a => !a.isEmpty := fun a M k h => by cases a <;> exact h
theorem tj_tru {S : Type} {μ : S → Mem} {ρ : St'} {s : S} {τ : Type} {e : τ → D} {f : τ → Bool} {we : W} {C : (τ → S → Res β) → Res β} (ht : O1T β e f) (h : EJ μ ρ s we e C) : TJ μ ρ s (wTru we) fun rest => C fun a s1 => rest (f a) s1 := fun k E Q rest h1 q =>
  h _ E Q _ h1 fun a s1 h2 => ht a _ _ (q _ s1 h2)
theorem ej_notT {S : Type} {μ : S → Mem} {ρ : St'} {s : S} {τ : Type} {e : τ → D} {f : τ → Bool} {we : W} {C : (τ → S → Res β) → Res β} (ht : O1T β e f) (h : EJ μ ρ s we e C) : EJ μ ρ s (wNotT we) D.bl fun rest => C fun a s1 => rest (!f a) s1 := fun k E Q rest h1 q =>
  h _ E Q _ h1 fun a s1 h2 => ht a _ _ (q _ s1 h2)
section
variable {S : Type} {μ : S → Mem} {ρ : St'} {s : S}
/-- and, or of truths -/
theorem ej_andP {wa wb : W} {Ca : (Bool → S → Res β) → Res β} {y : S → Bool} (ha : EJ μ ρ s wa D.bl Ca) (hb : ∀ s1, EJ (β := β) μ ρ s1 wb D.bl fun rest => rest (y s1) s1) : EJ μ ρ s (wAndT wa wb) D.bl fun rest => Ca fun x s1 => rest (x && y s1) s1 := fun k E Q rest h1 q =>
  ha _ E Q _ h1 fun x s1 h2 => by
    cases x with
    | true => exact br_t (hb s1 _ E Q _ h2 fun b s2 h3 => q b s2 h3)
    | false => exact br_f (q _ _ h2)
theorem ej_orP {wa wb : W} {Ca : (Bool → S → Res β) → Res β} {y : S → Bool} (ha : EJ μ ρ s wa D.bl Ca) (hb : ∀ s1, EJ (β := β) μ ρ s1 wb D.bl fun rest => rest (y s1) s1) : EJ μ ρ s (wOrT wa wb) D.bl fun rest => Ca fun x s1 => rest (x || y s1) s1 := fun k E Q rest h1 q =>
  ha _ E Q _ h1 fun x s1 h2 => by
    cases x with
    | true => exact br_t (q _ _ h2)
    | false => exact br_f (hb s1 _ E Q _ h2 fun b s2 h3 => q b s2 h3)
theorem ej_andS {wa wb : W} {Ca : (Bool → S → Res β) → Res β} {Cb : S → (Bool → S → Res Bool) → Res Bool} (Cb' : S → (Bool → Res Bool) → Res Bool) (ha : EJ μ ρ s wa D.bl Ca) (hb : ∀ s1, EJ μ ρ s1 wb D.bl (Cb s1)) (he : ∀ s1 rest, Cb s1 rest = Cb' s1 fun y => rest y s1) :
    EJ μ ρ s (wAndT wa wb) D.bl fun rest => Ca fun x s1 => Res.bind (if x then Cb' s1 fun y => .ok y else .ok false) fun y => rest y s1 := fun k E Q rest h1 q =>
  ha _ E Q _ h1 fun x s1 h2 => by
    rw [wp_bind] at h2
    cases x with
    | true => exact br_t (keep (G := fun k' => (∀ d M, k' d M → k (.bl d) M) → wb ρ (μ s1) k E) (k := fun a M => k (.bl a) M) (fun k' Q rest g g' hk => hb s1 k E Q rest g fun a s' z => hk _ _ (g' a s' z)) (he s1) h2 (fun a h3 => q a s1 h3) fun _ _ z => z)
    | false => exact br_f (q _ _ h2)
theorem ej_orS {wa wb : W} {Ca : (Bool → S → Res β) → Res β} {Cb : S → (Bool → S → Res Bool) → Res Bool} (Cb' : S → (Bool → Res Bool) → Res Bool) (ha : EJ μ ρ s wa D.bl Ca) (hb : ∀ s1, EJ μ ρ s1 wb D.bl (Cb s1)) (he : ∀ s1 rest, Cb s1 rest = Cb' s1 fun y => rest y s1) :
    EJ μ ρ s (wOrT wa wb) D.bl fun rest => Ca fun x s1 => Res.bind (if x then .ok true else Cb' s1 fun y => .ok y) fun y => rest y s1 := fun k E Q rest h1 q =>
  ha _ E Q _ h1 fun x s1 h2 => by
    rw [wp_bind] at h2
    cases x with
    | true => exact br_t (q _ _ h2)
    | false => exact br_f (keep (G := fun k' => (∀ d M, k' d M → k (.bl d) M) → wb ρ (μ s1) k E) (k := fun a M => k (.bl a) M) (fun k' Q rest g g' hk => hb s1 k E Q rest g fun a s' z => hk _ _ (g' a s' z)) (he s1) h2 (fun a h3 => q a s1 h3) fun _ _ z => z)
end
/-! ### == -/
def PEq {τ : Type} [DecidableEq τ] (e : τ → D) : Prop := ∀ x y M (k : Bool → Prop), k (decide (x = y)) → eqD (e x) (e y) M k
structure PDat {τ : Type} (e : τ → D) (n : Nat) (p : τ → PyData) : Prop where
  pk : ∀ x, Pk n (e x) (p x)
  eqv : ∀ x y, PyData.eqv (p x) (p y) = true ↔ x = y
theorem pd_int : PDat D.int 0 .int := ⟨fun _ => pk_int, fun x y => by simp [PyData.eqv]⟩
theorem pd_bl : PDat D.bl 0 .bool := ⟨fun _ => pk_bl, fun x y => by simp [PyData.eqv]⟩
theorem pd_non : PDat eN 0 fun _ => .none := ⟨fun _ => pk_non, fun x y => by simp [PyData.eqv]⟩
theorem pka_map {τ : Type} {e : τ → D} {n : Nat} {p : τ → PyData} (h : PDat e n p) : ∀ l : List τ, PkAll n (l.map e) (l.map p)
  | [] => pka_nil
  | x :: l => pka_cons (h.pk x) (pka_map h l)
theorem eqv_map {τ : Type} {e : τ → D} {n : Nat} {p : τ → PyData} (h : PDat e n p) : ∀ l m : List τ, PyData.eqvAll (l.map p) (m.map p) = true ↔ l = m
  | [], [] => by simp [PyData.eqvAll]
  | [], _ :: _ => by simp [PyData.eqvAll]
  | _ :: _, [] => by simp [PyData.eqvAll]
  | i :: l, j :: m => by
    simp only [List.map_cons, PyData.eqvAll, Bool.and_eq_true, h.eqv, eqv_map h l m, List.cons.injEq]
theorem pd_L {τ : Type} {e : τ → D} {n : Nat} {p : τ → PyData} (h : PDat e n p) : PDat (eL e) (n + 1) fun l => .list (l.map p) := ⟨fun l => pk_lst (pka_map h l), fun l m => by simp only [PyData.eqv, eqv_map h]⟩
theorem pd_T {τ : Type} {e : τ → D} {n : Nat} {p : τ → PyData} (h : PDat e n p) : PDat (eT e) (n + 1) fun l => .tuple (l.map p) := ⟨fun l => pk_tup (pka_map h l), fun l m => by simp only [PyData.eqv, eqv_map h]⟩
theorem pk_mono {n m : Nat} {x : D} {p : PyData} (h : Pk n x p) (hm : n ≤ m) : Pk m x p := ⟨h.py, h.ok, Nat.le_trans h.dp hm⟩
theorem pd_T2 {τ1 τ2 : Type} {e1 : τ1 → D} {e2 : τ2 → D} {n1 n2 : Nat} {p1 : τ1 → PyData} {p2 : τ2 → PyData} (h1 : PDat e1 n1 p1) (h2 : PDat e2 n2 p2) : PDat (eT2 e1 e2) (n1 + n2 + 1) fun q => .tuple [p1 q.1, p2 q.2] :=
  ⟨fun q => pk_tup (pka_cons (pk_mono (h1.pk q.1) (by omega)) (pka_cons (pk_mono (h2.pk q.2) (by omega)) pka_nil)), fun q r => by
    simp only [PyData.eqv, PyData.eqvAll, Bool.and_eq_true, Bool.and_true, h1.eqv, h2.eqv, Prod.ext_iff]⟩
theorem pd_T3 {τ1 τ2 τ3 : Type} {e1 : τ1 → D} {e2 : τ2 → D} {e3 : τ3 → D} {n1 n2 n3 : Nat} {p1 : τ1 → PyData} {p2 : τ2 → PyData} {p3 : τ3 → PyData} (h1 : PDat e1 n1 p1) (h2 : PDat e2 n2 p2) (h3 : PDat e3 n3 p3) : PDat (eT3 e1 e2 e3) (n1 + n2 + n3 + 1) fun q => .tuple [p1 q.1, p2 q.2.1, p3 q.2.2] :=
  ⟨fun q => pk_tup (pka_cons (pk_mono (h1.pk q.1) (by omega)) (pka_cons (pk_mono (h2.pk q.2.1) (by omega)) (pka_cons (pk_mono (h3.pk q.2.2) (by omega)) pka_nil))), fun q r => by
    simp only [PyData.eqv, PyData.eqvAll, Bool.and_eq_true, Bool.and_true, h1.eqv, h2.eqv, h3.eqv, Prod.ext_iff]⟩
theorem pd_emb {τ : Type} {e : τ → D} {n : Nat} {p : τ → PyData} (h : PDat e n p) {τ' : Type} {e' : τ' → D} (f : τ' → τ) (he : ∀ x, e' x = e (f x)) (hi : ∀ x y, f x = f y → x = y) : PDat e' n fun x => p (f x) := ⟨fun x => by rw [he]; exact h.pk _, fun x y => by rw [h.eqv]; exact ⟨hi x y, fun e => by rw [e]⟩⟩
theorem peq_int : PEq D.int := fun x y M k h => h
theorem peq_str : PEq D.str := fun x y M k h => h
theorem peq_of {τ : Type} [DecidableEq τ] {e : τ → D} {n : Nat} {p : τ → PyData} (h : PDat e n p) (hn : n ≤ 64) (he : ∀ x y M k, eqG (e x) (e y) M k → eqD (e x) (e y) M k) : PEq e := fun x y M k hk => he _ _ _ _ (eq_of (h.pk x) (h.pk y) hn hn (by
  have e : PyData.eqv (p x) (p y) = decide (x = y) := by
    rw [Bool.eq_iff_iff, h.eqv]; simp
  rw [e]; exact hk))
theorem o_eq {τ : Type} [DecidableEq τ] {e : τ → D} (h : PEq e) : O2 β dEq e e D.bl fun a b rest => rest (decide (a = b)) := fun a b M k Q rest h1 q => h a b M _ (q _ h1)
theorem o_ne {τ : Type} [DecidableEq τ] {e : τ → D} (h : PEq e) : O2 β dNe e e D.bl fun a b rest => rest (!decide (a = b)) := fun a b M k Q rest h1 q => h a b M _ (q _ h1)
/-- unlike kinds of data -/
theorem o_eqF {τ1 τ2 : Type} {e1 : τ1 → D} {e2 : τ2 → D} (h : ∀ a b M k, k false → eqD (e1 a) (e2 b) M k) : O2 β dEq e1 e2 D.bl fun a b rest => rest false := fun a b M k Q rest h1 q => h a b M _ (q _ h1)
theorem o_neF {τ1 τ2 : Type} {e1 : τ1 → D} {e2 : τ2 → D} (h : ∀ a b M k, k false → eqD (e1 a) (e2 b) M k) : O2 β dNe e1 e2 D.bl fun a b rest => rest true := fun a b M k Q rest h1 q => h a b M _ (q _ h1)
/-! ### None -/
theorem o_isF {τ : Type} {e : τ → D} (h : ∀ a, Px.isNon (e a) = false) : O2 β dIs e eN D.bl fun a _ rest => rest false := fun a b M k Q rest h1 q => by
  have z := q _ h1
  show k (.bl (Px.isNon (e a))) M
  rw [h]; exact z
theorem o_isnF {τ : Type} {e : τ → D} (h : ∀ a, Px.isNon (e a) = false) : O2 β dIsn e eN D.bl fun a _ rest => rest true := fun a b M k Q rest h1 q => by
  have z := q _ h1
  show k (.bl (!Px.isNon (e a))) M
  rw [h]; exact z
theorem o_isO {τ : Type} {e : τ → D} (h : ∀ a, Px.isNon (e a) = false) : O2 β dIs (eO e) eN D.bl fun a _ rest => rest a.isNone := fun a b M k Q rest h1 q => by
  have z := q _ h1
  cases a with
  | none => exact z
  | some x =>
    show k (.bl (Px.isNon (e x))) M
    rw [h]; exact z
theorem o_isnO {τ : Type} {e : τ → D} (h : ∀ a, Px.isNon (e a) = false) : O2 β dIsn (eO e) eN D.bl fun a _ rest => rest a.isSome := fun a b M k Q rest h1 q => by
  have z := q _ h1
  cases a with
  | none => exact z
  | some x =>
    show k (.bl (!Px.isNon (e x))) M
    rw [h]; exact z
theorem o_isN : O2 β dIs eN eN D.bl fun a _ rest => rest true := fun a b M k Q rest h1 q => q _ h1
theorem o_isnN : O2 β dIsn eN eN D.bl fun a _ rest => rest false := fun a b M k Q rest h1 q => q _ h1
/-! ### lists and tuples -/
theorem o_len {τ : Type} {e : τ → D} : O1 β dLen (eL e) D.int fun l rest => rest (l.length : Int) := fun a M k Q rest h q => by
  have z := q _ h
  show k (.int ((a.map e).length : Nat)) M
  rw [List.length_map]; exact z
theorem o_lenT {τ : Type} {e : τ → D} : O1 β dLen (eT e) D.int fun l rest => rest (l.length : Int) := fun a M k Q rest h q => by
  have z := q _ h
  show k (.int ((a.map e).length : Nat)) M
  rw [List.length_map]; exact z
theorem o_lenF {τ : Type} {e : τ → D} (n : Int) (h : ∀ a M k, k (.int n) M → dLen (e a) M k) : O1 β dLen e D.int fun l rest => rest n := fun a M k Q rest h1 q => h _ _ _ (q _ h1)
theorem ixR_wp {τ : Type} {l : List τ} {i : Int} {f : τ → Res β} {Q : β → Prop} (h : ((ixR l i).bind f).wp Q) : ∃ a, atI l i = some a ∧ (f a).wp Q := by
  unfold ixR at h
  split at h
  · exact ⟨_, by assumption, h⟩
  · cases h
theorem o_ix {τ : Type} {e : τ → D} : O2 β dIx (eL e) D.int e fun l i rest => (ixR l i).bind rest := fun a b M k Q rest h q => by
  obtain ⟨x, h1, h2⟩ := ixR_wp h
  exact ix_of (by rw [atI_map', h1]; rfl) (q _ h2)
theorem o_ixT {τ : Type} {e : τ → D} : O2 β dIx (eT e) D.int e fun l i rest => (ixR l i).bind rest := fun a b M k Q rest h q => by
  obtain ⟨x, h1, h2⟩ := ixR_wp h
  exact ix_of (by rw [atI_map', h1]; rfl) (q _ h2)
/-- a written place of a tuple whose items are of unlike kinds -/
theorem ej_ixk {S : Type} {μ : S → Mem} {ρ : St'} {s : S} {τ1 τ : Type} {e1 : τ1 → D} {e : τ → D} {i : Int} (f : τ1 → τ) {wa : W} {Ca : (τ1 → S → Res β) → Res β} (hd : ∀ a M k, k (e (f a)) M → dIx (e1 a) (.int i) M k) (ha : EJ μ ρ s wa e1 Ca) :
    EJ μ ρ s (wOp dIx wa (wC (.int i))) e fun rest => Ca fun a s1 => rest (f a) s1 := fun k E Q rest h q =>
  ha _ E Q _ h fun a s1 h1 => hd a _ _ (q _ s1 h1)
theorem o_addL {τ : Type} {e : τ → D} : O2 β (dAdd false) (eL e) (eL e) (eL e) fun a b rest => (addL a b).bind rest := fun a b M k Q rest h q => by
  obtain ⟨h1, h2⟩ := ite_wp h
  have z := q _ h2
  exact sz (by rw [List.length_map, List.length_map]; exact h1) (by rw [← List.map_append]; exact z)
theorem o_addT {τ : Type} {e : τ → D} {m : Bool} : O2 β (dAdd m) (eT e) (eT e) (eT e) fun a b rest => (addL a b).bind rest := fun a b M k Q rest h q => by
  obtain ⟨h1, h2⟩ := ite_wp h
  have z := q _ h2
  exact sz (by rw [List.length_map, List.length_map]; exact h1) (by rw [← List.map_append]; exact z)
theorem o_addS {m : Bool} : O2 β (dAdd m) D.str D.str D.str fun a b rest => (addS a b).bind rest := fun a b M k Q rest h q => by
  obtain ⟨h1, h2⟩ := ite_wp h
  exact sz h1 (q _ h2)
theorem map_rep {τ : Type} {e : τ → D} (a : List τ) (n : Nat) : (List.replicate n (a.map e)).flatten = ((List.replicate n a).flatten).map e := by
  rw [List.map_flatten, List.map_replicate]
theorem o_repL {τ : Type} {e : τ → D} : O2 β (dMulT false) (eL e) D.int (eL e) fun a b rest => (repL a b).bind rest := fun a b M k Q rest h q => by
  obtain ⟨h1, h2⟩ := ite_wp h
  have z := q _ h2
  exact rep_of h1.1 (by rw [List.length_map]; exact h1.2) (by rw [map_rep]; exact z)
theorem o_inI : O2 β dIn D.int (eL D.int) D.bl fun a l rest => rest (decide (a ∈ l)) := fun a b M k Q rest h q => ints_of (q _ h)
theorem o_inIT : O2 β dIn D.int (eT D.int) D.bl fun a l rest => rest (decide (a ∈ l)) := fun a b M k Q rest h q => ints_of (q _ h)
theorem o_ninI : O2 β dNin D.int (eL D.int) D.bl fun a l rest => rest (!decide (a ∈ l)) := fun a b M k Q rest h q => ints_of (q _ h)
theorem o_ninIT : O2 β dNin D.int (eT D.int) D.bl fun a l rest => rest (!decide (a ∈ l)) := fun a b M k Q rest h q => ints_of (q _ h)
theorem o_inS : O2 β dIn D.str (eL D.str) D.bl fun a l rest => rest (decide (a ∈ l)) := fun a b M k Q rest h q => strs_of (q _ h)
theorem o_inST : O2 β dIn D.str (eT D.str) D.bl fun a l rest => rest (decide (a ∈ l)) := fun a b M k Q rest h q => strs_of (q _ h)
theorem o_ninS : O2 β dNin D.str (eL D.str) D.bl fun a l rest => rest (!decide (a ∈ l)) := fun a b M k Q rest h q => strs_of (q _ h)
theorem o_ninST : O2 β dNin D.str (eT D.str) D.bl fun a l rest => rest (!decide (a ∈ l)) := fun a b M k Q rest h q => strs_of (q _ h)
theorem any_eqv {τ : Type} [DecidableEq τ] {e : τ → D} {n : Nat} {p : τ → PyData} (h : PDat e n p) (x : τ) (l : List τ) : ((l.map p).any fun z => PyData.eqv z (p x)) = decide (x ∈ l) := by
  rw [Bool.eq_iff_iff, List.any_map, List.any_eq_true]
  simp only [Function.comp, h.eqv, decide_eq_true_eq]
  exact ⟨fun ⟨y, h1, h2⟩ => h2 ▸ h1, fun h => ⟨x, h, rfl⟩⟩
theorem in_of {τ : Type} [DecidableEq τ] {e : τ → D} {n : Nat} {p : τ → PyData} (h : PDat e n p) (hn : n ≤ 63) (x : τ) (l : List τ) {M : Mem} {k : Bool → Prop} (hr : ∀ x, pyM M (e x) = py (e x)) (hk : k (decide (x ∈ l))) : inG (e x) (eL e l) M k := by
  unfold inG
  refine ⟨p x, l.map p, _, by rw [hr]; exact (h.pk x).py, (pk_lst (pka_map h l)).py, .inl rfl, (h.pk x).sh (by omega), (pk_lst (pka_map h l)).sh (by omega), ?_⟩
  rw [any_eqv h]; exact hk
theorem o_inG {τ : Type} [DecidableEq τ] {e : τ → D} {n : Nat} {p : τ → PyData} (h : PDat e n p) (hn : n ≤ 63) (hr : ∀ M x, pyM M (e x) = py (e x)) (hi : ∀ x y M k, inG (e x) y M k → inD (e x) y M k) : O2 β dIn e (eL e) D.bl fun a l rest => rest (decide (a ∈ l)) := fun a b M k Q rest h1 q => hi _ _ _ _ (in_of h hn a b (hr M) (q _ h1))
theorem o_ninG {τ : Type} [DecidableEq τ] {e : τ → D} {n : Nat} {p : τ → PyData} (h : PDat e n p) (hn : n ≤ 63) (hr : ∀ M x, pyM M (e x) = py (e x)) (hi : ∀ x y M k, inG (e x) y M k → inD (e x) y M k) : O2 β dNin e (eL e) D.bl fun a l rest => rest (!decide (a ∈ l)) := fun a b M k Q rest h1 q => hi _ _ _ _ (in_of h hn a b (hr M) (q _ h1))
theorem in_ofT {τ : Type} [DecidableEq τ] {e : τ → D} {n : Nat} {p : τ → PyData} (h : PDat e n p) (hn : n ≤ 63) (x : τ) (l : List τ) {M : Mem} {k : Bool → Prop} (hr : ∀ x, pyM M (e x) = py (e x)) (hk : k (decide (x ∈ l))) : inG (e x) (eT e l) M k := by
  unfold inG
  refine ⟨p x, l.map p, _, by rw [hr]; exact (h.pk x).py, (pk_tup (pka_map h l)).py, .inr rfl, (h.pk x).sh (by omega), (pk_tup (pka_map h l)).sh (by omega), ?_⟩
  rw [any_eqv h]; exact hk
theorem o_inGT {τ : Type} [DecidableEq τ] {e : τ → D} {n : Nat} {p : τ → PyData} (h : PDat e n p) (hn : n ≤ 63) (hr : ∀ M x, pyM M (e x) = py (e x)) (hi : ∀ x y M k, inG (e x) y M k → inD (e x) y M k) : O2 β dIn e (eT e) D.bl fun a l rest => rest (decide (a ∈ l)) := fun a b M k Q rest h1 q => hi _ _ _ _ (in_ofT h hn a b (hr M) (q _ h1))
theorem o_ninGT {τ : Type} [DecidableEq τ] {e : τ → D} {n : Nat} {p : τ → PyData} (h : PDat e n p) (hn : n ≤ 63) (hr : ∀ M x, pyM M (e x) = py (e x)) (hi : ∀ x y M k, inG (e x) y M k → inD (e x) y M k) : O2 β dNin e (eT e) D.bl fun a l rest => rest (!decide (a ∈ l)) := fun a b M k Q rest h1 q => hi _ _ _ _ (in_ofT h hn a b (hr M) (q _ h1))
theorem o_tuple {τ : Type} {e : τ → D} : O1 β dTuple (eL e) (eT e) fun l rest => rest l := fun a M k Q rest h q => q _ h
theorem o_tupleT {τ : Type} {e : τ → D} : O1 β dTuple (eT e) (eT e) fun l rest => rest l := fun a M k Q rest h q => q _ h
theorem o_list {τ : Type} {e : τ → D} : O1 β (dList false) (eL e) (eL e) fun l rest => rest l := fun a M k Q rest h q => q _ h
theorem o_listT {τ : Type} {e : τ → D} : O1 β (dList false) (eT e) (eL e) fun l rest => rest l := fun a M k Q rest h q => q _ h
theorem o_sum : O1 β dSum (eL D.int) D.int fun l rest => rest l.sum := fun a M k Q rest h q => ints_of (q _ h)
theorem o_all : O1 β dAll (eL D.bl) D.bl fun l rest => rest (l.all id) := fun a M k Q rest h q => bls_of (q _ h)
theorem o_any : O1 β dAny (eL D.bl) D.bl fun l rest => rest (l.any id) := fun a M k Q rest h q => bls_of (q _ h)
theorem o_sorted : O1 β (dSorted false) (eL D.int) (eL D.int) fun l rest => (sortR l).bind rest := fun a M k Q rest h q => by
  obtain ⟨h1, h2⟩ := ite_wp h
  exact ints_of (is_sortL h1 (q _ h2))
/-- two texts, put in order -/
def sortS2 (a b : Str) : List Str := if sortedS [a, b] then [a, b] else [b, a]
/-! slices -/
section
variable {S : Type} {μ : S → Mem} {ρ : St'} {s : S}
theorem oj_none : OJ (β := β) μ ρ s woNone fun rest => rest none s := fun k E Q rest h q => q _ _ h
theorem oj_some {we : W} {C : (Int → S → Res β) → Res β} (h : EJ μ ρ s we D.int C) : OJ μ ρ s (woSome we) fun rest => C fun a s1 => rest (some a) s1 := fun k E Q rest h1 q => h _ E Q _ h1 fun a s1 h2 => q _ _ h2
def OSl (β : Type) {τ1 τ : Type} (m : Bool) (e1 : τ1 → D) (e : τ → D) (f : τ1 → Option Int → Option Int → τ) : Prop := ∀ a lo hi M k, k (e (f a lo hi)) M → slD m (e1 a) lo hi M k
theorem sl_L {τ : Type} {e : τ → D} : OSl β false (eL e) (eL e) Px.cutD := fun a lo hi M k h => by
  show k (.lst (Px.cutD (a.map e) lo hi)) M
  rw [cutD_map]; exact h
theorem sl_T {τ : Type} {e : τ → D} {m : Bool} : OSl β m (eT e) (eT e) Px.cutD := fun a lo hi M k h => by
  show k (.tup (Px.cutD (a.map e) lo hi)) M
  rw [cutD_map]; exact h
theorem sl_scr : OSl β false D.scr (eL D.int) Px.cutD := fun a lo hi M k h => h
theorem ej_sl {τ1 τ : Type} {m : Bool} {e1 : τ1 → D} {e : τ → D} {f : τ1 → Option Int → Option Int → τ} {we : W} {wl wh : WO} {Ca : (τ1 → S → Res β) → Res β} {Cl : τ1 → S → (Option Int → S → Res β) → Res β} {Ch : τ1 → S → Option Int → S → (Option Int → S → Res β) → Res β}
    (hs : OSl β m e1 e f) (ha : EJ μ ρ s we e1 Ca) (hl : ∀ a s1, OJ μ ρ s1 wl (Cl a s1)) (hh : ∀ a s1 lo s2, OJ μ ρ s2 wh (Ch a s1 lo s2)) : EJ μ ρ s (wSl m we wl wh) e fun rest => Ca fun a s1 => Cl a s1 fun lo s2 => Ch a s1 lo s2 fun hi s3 => rest (f a lo hi) s3 := fun k E Q rest h q =>
  ha _ E Q _ h fun a s1 h1 => hl a s1 _ E Q _ h1 fun lo s2 h2 => hh a s1 lo s2 _ E Q _ h2 fun hi s3 h3 => hs a lo hi _ _ (q _ s3 h3)
theorem ej_revT {τ : Type} {m : Bool} {e : τ → D} {we : W} {Ca : (List τ → S → Res β) → Res β} (ha : EJ μ ρ s we (eT e) Ca) : EJ μ ρ s (wRev m we) (eT e) fun rest => Ca fun a s1 => rest a.reverse s1 := fun k E Q rest h q =>
  ha _ E Q _ h fun a s1 h1 => by
    show k (.tup (a.map e).reverse) (μ s1)
    rw [← List.map_reverse]; exact q _ _ h1
theorem ej_revL {τ : Type} {e : τ → D} {we : W} {Ca : (List τ → S → Res β) → Res β} (ha : EJ μ ρ s we (eL e) Ca) : EJ μ ρ s (wRev false we) (eL e) fun rest => Ca fun a s1 => rest a.reverse s1 := fun k E Q rest h q =>
  ha _ E Q _ h fun a s1 h1 => by
    show k (.lst (a.map e).reverse) (μ s1)
    rw [← List.map_reverse]; exact q _ _ h1
/-! kinds -/
theorem ej_isi {τ : Type} {T : CT} {e : τ → D} {c : D} (b : Bool) {we : W} {C : (τ → S → Res β) → Res β} (hd : ∀ a M k, k (.bl b) M → dIsi T [e a, c] M k) (h : EJ μ ρ s we e C) : EJ μ ρ s (wCB (dIsi T) (waCons we (waCons (wC c) waNil))) D.bl fun rest => C fun a s1 => rest b s1 := fun k E Q rest h1 q =>
  h _ E Q _ h1 fun a s1 h2 => hd a _ _ (q _ s1 h2)
theorem ej_isi2 {τ : Type} {e : τ → D} {m1 m2 : String} (b : Bool) {we : W} {C : (τ → S → Res β) → Res β} (hd : ∀ a M k, k b → isi2D M (e a) m1 m2 k) (h : EJ μ ρ s we e C) : EJ μ ρ s (wIsi2 m1 m2 we) D.bl fun rest => C fun a s1 => rest b s1 := fun k E Q rest h1 q =>
  h _ E Q _ h1 fun a s1 h2 => hd a _ _ (q _ s1 h2)
end
end
end Ty

set_option Elab.async false
set_option linter.all false
set_option maxRecDepth 100000
set_option maxHeartbeats 4000000
/-! Fields, calls, iteration, comprehensions, cells. -/
namespace Ty
open PySem PySem.Spec PyProof.Rows L2 Rl RZ RT Px
section
variable {S β : Type} {μ : S → Mem} {ρ : St'} {s : S}
/-! ### fields, calls -/
theorem ej_fld {τ1 τ : Type} {e1 : τ1 → D} {e : τ → D} {f : Str} (g : τ1 → τ) {we : W} {C : (τ1 → S → Res β) → Res β} (hf : ∀ a M (k : D → Prop), k (e (g a)) → asI (e1 a) M fun _ ns xs => fldD ns xs f k) (ha : EJ μ ρ s we e1 C) : EJ μ ρ s (wFld f we) e fun rest => C fun a s1 => rest (g a) s1 := fun k E Q rest h q =>
  ha _ E Q _ h fun a s1 h1 => hf a _ _ (q _ s1 h1)
theorem cj_p {τ : Type} {ea : τ → List D} {wa : WA} {C : (τ → S → Res β) → Res β} (h : AJ μ ρ s wa ea C) : CJ μ ρ s (wcP wa) ea (fun _ => []) C := fun k E Q rest h1 q => h _ E Q _ h1 fun a s1 h2 => q _ _ h2
theorem cj_k {τ : Type} {ea : τ → List D} {wa : WA} {C : (τ → S → Res β) → Res β} (h : AJ μ ρ s wa ea C) : CJ μ ρ s (wcK wa) (fun _ => []) ea C := fun k E Q rest h1 q => h _ E Q _ h1 fun a s1 h2 => q _ _ h2
theorem cj_pk {τ1 τ2 : Type} {ea : τ1 → List D} {eb : τ2 → List D} {wa wb : WA} {Ca : (τ1 → S → Res β) → Res β} {Cb : τ1 → S → (τ2 → S → Res β) → Res β} (h : AJ μ ρ s wa ea Ca) (g : ∀ a s1, AJ μ ρ s1 wb eb (Cb a s1)) : CJ μ ρ s (wcPK wa wb) (fun p : τ1 × τ2 => ea p.1) (fun p => eb p.2) fun rest => Ca fun a s1 => Cb a s1 fun b s2 => rest (a, b) s2 := fun k E Q rest h1 q =>
  h _ E Q _ h1 fun a s1 h2 => g a s1 _ E Q _ h2 fun b s2 h3 => q (a, b) _ h3
theorem ej_fn {τ υ : Type} {n m : Nat} {wf : WF} {wc : WC} {ea eb : τ → List D} {e : υ → D} {C : (τ → S → Res β) → Res β} (ha : CJ μ ρ s wc ea eb C) (mf : τ → Res υ) (hk : ∀ x P, P → Ck n (ea x) (Ck m (eb x) P)) (hw : ∀ x M (k : D → Mem → Prop) E, (mf x).wp (fun r => k (e r) M) → wf (ea x) M k E) :
    EJ μ ρ s (wFn n m wf wc) e fun rest => C fun x s1 => (mf x).bind fun r => rest r s1 := fun k E Q rest h q =>
  ha _ E Q _ h fun x s1 h1 => hk x _ (hw x _ k E (by rw [wp_bind] at h1; exact h1.mono fun r h2 => q r s1 h2))
theorem ej_fnK {τ υ : Type} {n m : Nat} {wf : WF} {wc : WC} {π : List Nat} {ea eb ec : τ → List D} {e : υ → D} {C : (τ → S → Res β) → Res β} (ha : CJ μ ρ s wc ea eb C) (mf : τ → Res υ) (hk : ∀ x (P : List D → Prop), P (ec x) → Ck n (ea x) (Ck m (eb x) (pkD (ea x ++ eb x) π P))) (hw : ∀ x M (k : D → Mem → Prop) E, (mf x).wp (fun r => k (e r) M) → wf (ec x) M k E) :
    EJ μ ρ s (wFnK n m wf π wc) e fun rest => C fun x s1 => (mf x).bind fun r => rest r s1 := fun k E Q rest h q =>
  ha _ E Q _ h fun x s1 h1 => hk x (fun ys => wf ys _ k E) (hw x _ k E (by rw [wp_bind] at h1; exact h1.mono fun r h2 => q r s1 h2))
theorem ej_mt {τ0 τ υ : Type} {c nm : Str} {n m : Nat} {wf : WF} {wo : W} {wc : WC} {e0 : τ0 → D} {ea eb : τ → List D} {e : υ → D} {Co : (τ0 → S → Res β) → Res β} {C : τ0 → S → (τ → S → Res β) → Res β} (ho : EJ μ ρ s wo e0 Co) (ha : ∀ o s1, CJ μ ρ s1 wc ea eb (C o s1)) (mf : τ0 → τ → Res υ) (hm : ∀ o M P, P → asI (e0 o) M fun c' ns _ => mtD c c' ns nm P) (hk : ∀ x P, P → Ck n (ea x) (Ck m (eb x) P)) (hw : ∀ o x M (k : D → Mem → Prop) E, (mf o x).wp (fun r => k (e r) M) → wf (e0 o :: ea x) M k E) :
    EJ μ ρ s (wMt c nm n m wf wo wc) e fun rest => Co fun o s1 => C o s1 fun x s2 => (mf o x).bind fun r => rest r s2 := fun k E Q rest h q =>
  ho _ E Q _ h fun o s1 h0 => hm o _ _ (ha o s1 _ E Q _ h0 fun x s2 h1 => hk x _ (hw o x _ k E (by rw [wp_bind] at h1; exact h1.mono fun r h2 => q r s2 h2)))
theorem ej_mtK {τ0 τ υ : Type} {c nm : Str} {n m : Nat} {wf : WF} {π : List Nat} {wo : W} {wc : WC} {e0 : τ0 → D} {ea eb ec : τ → List D} {e : υ → D} {Co : (τ0 → S → Res β) → Res β} {C : τ0 → S → (τ → S → Res β) → Res β} (ho : EJ μ ρ s wo e0 Co) (ha : ∀ o s1, CJ μ ρ s1 wc ea eb (C o s1)) (mf : τ0 → τ → Res υ) (hm : ∀ o M P, P → asI (e0 o) M fun c' ns _ => mtD c c' ns nm P) (hk : ∀ o x (P : List D → Prop), P (e0 o :: ec x) → Ck n (ea x) (Ck m (eb x) (pkD ((e0 o :: ea x) ++ eb x) π P))) (hw : ∀ o x M (k : D → Mem → Prop) E, (mf o x).wp (fun r => k (e r) M) → wf (e0 o :: ec x) M k E) :
    EJ μ ρ s (wMtK c nm n m wf π wo wc) e fun rest => Co fun o s1 => C o s1 fun x s2 => (mf o x).bind fun r => rest r s2 := fun k E Q rest h q =>
  ho _ E Q _ h fun o s1 h0 => hm o _ _ (ha o s1 _ E Q _ h0 fun x s2 h1 => hk o x (fun ys => wf ys _ k E) (hw o x _ k E (by rw [wp_bind] at h1; exact h1.mono fun r h2 => q r s2 h2)))
/-- an instance that does not change behind its making -/
theorem ej_new {τ υ : Type} {c : Str} {n m : Nat} {wf : WF} {wc : WC} {ea eb : τ → List D} {e : υ → D} {ns : List Str} {fs : υ → List D} {C : (τ → S → Res β) → Res β} (ha : CJ μ ρ s wc ea eb C) (mf : τ → Res υ) (he : ∀ r, e r = .ins c ns (fs r)) (hk : ∀ x P, P → Ck n (ea x) (Ck m (eb x) P)) (hw : ∀ x M p (k : D → Mem → Prop) E, M p = none → (mf x).wp (fun r => k .non (mu M p (.ins c ns (fs r)))) → wf (.ref p :: ea x) (mu M p (.ins c [] [])) k E) :
    EJ μ ρ s (wNew false c n m wf wc) e fun rest => C fun x s1 => (mf x).bind fun r => rest r s1 := fun k E Q rest h q =>
  ha _ E Q _ h fun x s1 h1 => hk x _ (by
    rw [wp_bind] at h1
    obtain ⟨r, e1, h2⟩ := h1.get
    exact new_f (fun p k' hp hk' => hw x _ p k' E hp (wp_of e1 hk')) (by rw [← he]; exact q r s1 h2))
theorem ej_newK {τ υ : Type} {c : Str} {n m : Nat} {wf : WF} {wc : WC} {π : List Nat} {ea eb ec : τ → List D} {e : υ → D} {ns : List Str} {fs : υ → List D} {C : (τ → S → Res β) → Res β} (ha : CJ μ ρ s wc ea eb C) (mf : τ → Res υ) (he : ∀ r, e r = .ins c ns (fs r)) (hk : ∀ x (P : List D → Prop), P (ec x) → Ck n (ea x) (Ck m (eb x) (pkS (ea x ++ eb x) π P))) (hw : ∀ x M p (k : D → Mem → Prop) E, M p = none → (mf x).wp (fun r => k .non (mu M p (.ins c ns (fs r)))) → wf (.ref p :: ec x) (mu M p (.ins c [] [])) k E) :
    EJ μ ρ s (wNewK false c n m wf (0 :: π) wc) e fun rest => C fun x s1 => (mf x).bind fun r => rest r s1 := fun k E Q rest h q =>
  ha _ E Q _ h fun x s1 h1 => by
    rw [wp_bind] at h1
    obtain ⟨r, e1, h2⟩ := h1.get
    exact hk x (fun ys => newI false c wf (fun z => z :: ys) (μ s1) k E) (new_f (fun p k' hp hk' => hw x _ p k' E hp (wp_of e1 hk')) (by rw [← he]; exact q r s1 h2))
/-- == by an own __eq__ -/
theorem ej_eqO {τ1 τ2 : Type} {c : Str} {cs : List Str} {wf : WF} {d : D2} {e1 : τ1 → D} {e2 : τ2 → D} {wa wb : W} {Ca : (τ1 → S → Res β) → Res β} {Cb : τ1 → S → (τ2 → S → Res β) → Res β} (mf : τ1 → τ2 → Res Bool) (hd : ∀ a b M (k : D → Mem → Prop), wf [e1 a, e2 b] M (isB fun b M' => k (.bl b) M') noX → dEqO c cs wf d (e1 a) (e2 b) M k) (hw : ∀ a b M (k : D → Mem → Prop) E, (mf a b).wp (fun r => k (.bl r) M) → wf [e1 a, e2 b] M k E) (ha : EJ μ ρ s wa e1 Ca) (hb : ∀ a s1, EJ μ ρ s1 wb e2 (Cb a s1)) :
    EJ μ ρ s (wOp (dEqO c cs wf d) wa wb) D.bl fun rest => Ca fun a s1 => Cb a s1 fun b s2 => (mf a b).bind fun r => rest r s2 := fun k E Q rest h q =>
  ha _ E Q _ h fun a s1 h1 => hb a s1 _ E Q _ h1 fun b s2 h2 => hd a b _ k (hw a b _ _ _ (by rw [wp_bind] at h2; exact h2.mono fun r h3 => q r s2 h3))
theorem ej_neO {τ1 τ2 : Type} {c : Str} {cs : List Str} {wf : WF} {d : D2} {e1 : τ1 → D} {e2 : τ2 → D} {wa wb : W} {Ca : (τ1 → S → Res β) → Res β} {Cb : τ1 → S → (τ2 → S → Res β) → Res β} (mf : τ1 → τ2 → Res Bool) (hd : ∀ a b M (k : D → Mem → Prop), wf [e1 a, e2 b] M (isB fun b M' => k (.bl (!b)) M') noX → dNeO c cs wf d (e1 a) (e2 b) M k) (hw : ∀ a b M (k : D → Mem → Prop) E, (mf a b).wp (fun r => k (.bl r) M) → wf [e1 a, e2 b] M k E) (ha : EJ μ ρ s wa e1 Ca) (hb : ∀ a s1, EJ μ ρ s1 wb e2 (Cb a s1)) :
    EJ μ ρ s (wOp (dNeO c cs wf d) wa wb) D.bl fun rest => Ca fun a s1 => Cb a s1 fun b s2 => (mf a b).bind fun r => rest (!r) s2 := fun k E Q rest h q =>
  ha _ E Q _ h fun a s1 h1 => hb a s1 _ E Q _ h1 fun b s2 h2 => hd a b _ k (hw a b _ _ _ (by rw [wp_bind] at h2; exact h2.mono fun r h3 => q _ s2 h3))
/-! where the own method is not asked -/
theorem o_eqQ {τ1 τ2 τ : Type} {c : Str} {cs : List Str} {wf : WF} {d : D2} {e1 : τ1 → D} {e2 : τ2 → D} {e : τ → D} {f : τ1 → τ2 → (τ → Res β) → Res β} (hn : ∀ a y M k, d (e1 a) y M k → dEqO c cs wf d (e1 a) y M k) (h : O2 β d e1 e2 e f) : O2 β (dEqO c cs wf d) e1 e2 e f := fun a b M k Q rest h1 q => hn a _ M k (h a b M k Q rest h1 q)
theorem o_neQ {τ1 τ2 τ : Type} {c : Str} {cs : List Str} {wf : WF} {d : D2} {e1 : τ1 → D} {e2 : τ2 → D} {e : τ → D} {f : τ1 → τ2 → (τ → Res β) → Res β} (hn : ∀ a y M k, d (e1 a) y M k → dNeO c cs wf d (e1 a) y M k) (h : O2 β d e1 e2 e f) : O2 β (dNeO c cs wf d) e1 e2 e f := fun a b M k Q rest h1 q => hn a _ M k (h a b M k Q rest h1 q)
theorem o_lenQ {τ1 τ : Type} {c : Str} {wf : WF} {d : D1} {e1 : τ1 → D} {e : τ → D} {f : τ1 → (τ → Res β) → Res β} (hn : ∀ a M k, d (e1 a) M k → dLenO c wf d (e1 a) M k) (h : O1 β d e1 e f) : O1 β (dLenO c wf d) e1 e f := fun a M k Q rest h1 q => hn a M k (h a M k Q rest h1 q)
theorem o_strQ {τ1 τ : Type} {c : Str} {wf : WF} {d : D1} {e1 : τ1 → D} {e : τ → D} {f : τ1 → (τ → Res β) → Res β} (hn : ∀ a M k, d (e1 a) M k → dStrO c wf d (e1 a) M k) (h : O1 β d e1 e f) : O1 β (dStrO c wf d) e1 e f := fun a M k Q rest h1 q => hn a M k (h a M k Q rest h1 q)
/-! ### what is walked -/
theorem ij_L {τ : Type} {e : τ → D} {we : W} {C : (List τ → S → Res β) → Res β} (h : EJ μ ρ s we (eL e) C) : IJ μ ρ s (wiAny we) e C := fun k E Q rest h1 q => h _ E Q _ h1 fun a s1 h2 => q _ _ h2
theorem ij_T {τ : Type} {e : τ → D} {we : W} {C : (List τ → S → Res β) → Res β} (h : EJ μ ρ s we (eT e) C) : IJ μ ρ s (wiAny we) e C := fun k E Q rest h1 q => h _ E Q _ h1 fun a s1 h2 => q _ _ h2
theorem ij_F {τ0 τ : Type} {e0 : τ0 → D} {e : τ → D} {we : W} {C : (τ0 → S → Res β) → Res β} (f : τ0 → List τ) (hf : ∀ a, e0 a = .tup ((f a).map e) ∨ e0 a = .lst ((f a).map e)) (h : EJ μ ρ s we e0 C) : IJ μ ρ s (wiAny we) e fun rest => C fun a s1 => rest (f a) s1 := fun k E Q rest h1 q => h _ E Q _ h1 fun a s1 h2 => by
  have z := q _ _ h2
  rcases hf a with e | e <;> rw [e] <;> exact z
theorem ij_r1 {wa : WA} {C : (Int → S → Res β) → Res β} (h : AJ μ ρ s wa (fun i => [.int i]) C) : IJ μ ρ s (wiR1 wa) D.int fun rest => C fun j s1 => (rngR 0 j).bind fun l => rest l s1 := fun k E Q rest h1 q => h _ E Q _ h1 fun a s1 h2 => by
  obtain ⟨h3, h4⟩ := ite_wp h2
  rw [Int.sub_zero] at h4
  exact rg h3.2 (q _ _ h4)
theorem ij_r2 {wa : WA} {C : (Int × Int → S → Res β) → Res β} (h : AJ μ ρ s wa (fun p => [.int p.1, .int p.2]) C) : IJ μ ρ s (wiR2 wa) D.int fun rest => C fun p s1 => (rngR p.1 p.2).bind fun l => rest l s1 := fun k E Q rest h1 q => h _ E Q _ h1 fun a s1 h2 => by
  obtain ⟨h3, h4⟩ := ite_wp h2
  exact rg h3.1 (rg h3.2 (q _ _ h4))
theorem zipD_map {τ1 τ2 : Type} (e1 : τ1 → D) (e2 : τ2 → D) : ∀ (l : List τ1) (m : List τ2), zipD (l.map e1) (m.map e2) = (l.zip m).map (eT2 e1 e2)
  | [], _ => by simp [zipD]
  | _ :: _, [] => by simp [zipD]
  | x :: l, y :: m => by simp [zipD, zipD_map e1 e2 l m]
theorem ij_zipLL {τ1 τ2 : Type} {e1 : τ1 → D} {e2 : τ2 → D} {wa : WA} {C : (List τ1 × List τ2 → S → Res β) → Res β} (h : AJ μ ρ s wa (fun p => [eL e1 p.1, eL e2 p.2]) C) : IJ μ ρ s (wiZip wa) (eT2 e1 e2) fun rest => C fun p s1 => rest (p.1.zip p.2) s1 := fun k E Q rest h1 q => h _ E Q _ h1 fun a s1 h2 => by
  show k ⟨zipD (a.1.map e1) (a.2.map e2), [] ++ []⟩ _
  rw [zipD_map]; exact q _ _ h2
theorem ij_zipTT {τ1 τ2 : Type} {e1 : τ1 → D} {e2 : τ2 → D} {wa : WA} {C : (List τ1 × List τ2 → S → Res β) → Res β} (h : AJ μ ρ s wa (fun p => [eT e1 p.1, eT e2 p.2]) C) : IJ μ ρ s (wiZip wa) (eT2 e1 e2) fun rest => C fun p s1 => rest (p.1.zip p.2) s1 := fun k E Q rest h1 q => h _ E Q _ h1 fun a s1 h2 => by
  show k ⟨zipD (a.1.map e1) (a.2.map e2), []⟩ _
  rw [zipD_map]; exact q _ _ h2
def enumT {τ : Type} (n : Nat) : List τ → List (Int × τ)
  | [] => []
  | x :: xs => ((n : Int), x) :: enumT (n + 1) xs
theorem enumD_map {τ : Type} (e : τ → D) : ∀ (l : List τ) (n : Nat), enumD n (l.map e) = (enumT n l).map (eT2 D.int e)
  | [], _ => rfl
  | x :: l, n => by simp [enumD, enumT, enumD_map e l (n + 1)]
theorem ij_enumL {τ : Type} {e : τ → D} {wa : WA} {C : (List τ → S → Res β) → Res β} (h : AJ μ ρ s wa (fun l => [eL e l]) C) : IJ μ ρ s (wiEnum wa) (eT2 D.int e) fun rest => C fun l s1 => rest (enumT 0 l) s1 := fun k E Q rest h1 q => h _ E Q _ h1 fun a s1 h2 => by
  show k ⟨enumD 0 (a.map e), []⟩ _
  rw [enumD_map]; exact q _ _ h2
/-! ### comprehensions -/
def GJ (wg : WG) (d : D) (ρ ρ' : St') : Prop := ∀ M (k : St' → Mem → Prop) E, k ρ' M → wg d ρ M k E
def lcS {τ υ S : Type} (step : τ → S → Res (Option υ × S)) : List τ → List υ → S → Res (List υ × S)
  | [], acc, s => .ok (acc, s)
  | x :: xs, acc, s => (step x s).bind fun r => match r.1 with
    | none => lcS step xs acc r.2
    | some y => if acc.length + 1 ≤ 16777216 then lcS step xs (acc ++ [y]) r.2 else .no
theorem loopC_S {τ υ : Type} {ei : τ → D} {eo : υ → D} {wg : WG} {wt : WT} {we : W} {ρw : St'} {ρt : τ → St'} {k : List D → Mem → Prop} {Ct : τ → S → (Bool → S → Res (Option υ × S)) → Res (Option υ × S)} {Ce : τ → S → (υ → S → Res (Option υ × S)) → Res (Option υ × S)}
    (hg : ∀ x, GJ wg (ei x) ρw (ρt x)) (ht : ∀ x s, TJ μ (ρt x) s wt (Ct x s)) (he : ∀ x s, EJ μ (ρt x) s we eo (Ce x s)) :
    ∀ (xs : List τ) (acc : List υ) (s : S), (lcS (fun x s => Ct x s fun b s1 => if b then Ce x s1 fun y s2 => .ok (some y, s2) else .ok (none, s1)) xs acc s).wp (fun r => k (r.1.map eo) (μ r.2)) → loopC [] wg wt we ρw k (xs.map ei) (acc.map eo) (μ s)
  | [], acc, s, h => h
  | x :: xs, acc, s, h => by
    show wg (ei x) ρw (μ s) _ noX
    refine hg x _ _ _ ?_
    unfold lcS at h
    rw [wp_bind] at h
    refine ht x s _ noX _ _ h fun b s1 h1 => ?_
    cases b with
    | false => exact br_f (loopC_S hg ht he xs acc s1 h1)
    | true =>
      refine br_t (he x s1 _ noX _ _ h1 fun y s2 h2 => ?_)
      have h2 : (if acc.length + 1 ≤ 16777216 then lcS (fun x s => Ct x s fun b s1 => if b then Ce x s1 fun y s2 => .ok (some y, s2) else .ok (none, s1)) xs (acc ++ [y]) s2 else Res.no).wp (fun r => k (r.1.map eo) (μ r.2)) := h2
      by_cases c : acc.length + 1 ≤ 16777216
      · rw [if_pos c] at h2
        refine sz (by rw [List.length_map]; exact c) ?_
        have z := loopC_S hg ht he xs (acc ++ [y]) s2 h2
        rw [List.map_append] at z
        exact z
      · rw [if_neg c] at h2; cases h2
/-- [e for x in xs if t], the state going along -/
theorem ej_lcS {τ υ : Type} {ei : τ → D} {eo : υ → D} {wi : WI} {wg : WG} {wt : WT} {we : W} {us : List Nat} {ρt : τ → St'} {Ci : (List τ → S → Res β) → Res β} {Ct : τ → S → (Bool → S → Res (Option υ × S)) → Res (Option υ × S)} {Ce : τ → S → (υ → S → Res (Option υ × S)) → Res (Option υ × S)}
    (hi : IJ μ ρ s wi ei Ci) (hg : ∀ x, GJ wg (ei x) (wipe' ρ us) (ρt x)) (ht : ∀ x s, TJ μ (ρt x) s wt (Ct x s)) (he : ∀ x s, EJ μ (ρt x) s we eo (Ce x s)) :
    EJ μ ρ s (wLc false wi wg wt we us) (eL eo) fun rest => Ci fun xs s1 => (lcS (fun x s => Ct x s fun b s1 => if b then Ce x s1 fun y s2 => .ok (some y, s2) else .ok (none, s1)) xs [] s1).bind fun r => rest r.1 r.2 := fun k E Q rest h q =>
  hi _ E Q _ h fun xs s1 h1 => by
    rw [wp_bind] at h1
    exact loopC_S hg ht he xs [] s1 (h1.mono fun r h2 => q _ _ h2)
/-- .. that says at once -/
def lcF {τ υ : Type} (p : τ → Bool) (f : τ → υ) (xs : List τ) : Res (List υ) := if (xs.filter p).length ≤ 16777216 then .ok ((xs.filter p).map f) else .no
def lcM {τ υ : Type} (f : τ → υ) (xs : List τ) : Res (List υ) := if xs.length ≤ 16777216 then .ok (xs.map f) else .no
theorem lcS_pure {τ υ : Type} (p : τ → Bool) (f : τ → υ) (s : S) : ∀ (xs : List τ) (acc : List υ), acc.length + (xs.filter p).length ≤ 16777216 → lcS (fun x (s : S) => if p x then .ok (some (f x), s) else .ok (none, s)) xs acc s = .ok (acc ++ (xs.filter p).map f, s)
  | [], acc, _ => by simp [lcS]
  | x :: xs, acc, h => by
    unfold lcS
    by_cases c : p x = true
    · rw [List.filter_cons_of_pos c] at h ⊢
      rw [if_pos c]
      show (if acc.length + 1 ≤ 16777216 then _ else _) = _
      rw [List.length_cons] at h
      rw [if_pos (by omega), lcS_pure p f s xs (acc ++ [f x]) (by rw [List.length_append, List.length_singleton]; omega), List.append_assoc]; rfl
    · rw [List.filter_cons_of_neg c] at h ⊢
      rw [if_neg c]
      exact lcS_pure p f s xs acc h
theorem ej_lcF {τ υ : Type} {ei : τ → D} {eo : υ → D} {wi : WI} {wg : WG} {wt : WT} {we : W} {us : List Nat} {ρt : τ → St'} {Ci : (List τ → S → Res β) → Res β} {p : τ → S → Bool} {f : τ → S → υ}
    (hi : IJ μ ρ s wi ei Ci) (hg : ∀ x, GJ wg (ei x) (wipe' ρ us) (ρt x)) (ht : ∀ x s, TJ (β := Option υ × S) μ (ρt x) s wt fun rest => rest (p x s) s) (he : ∀ x s, EJ (β := Option υ × S) μ (ρt x) s we eo fun rest => rest (f x s) s) :
    EJ μ ρ s (wLc false wi wg wt we us) (eL eo) fun rest => Ci fun xs s1 => (lcF (fun x => p x s1) (fun x => f x s1) xs).bind fun r => rest r s1 := fun k E Q rest h q =>
  hi _ E Q _ h fun xs s1 h1 => by
    obtain ⟨h2, h3⟩ := ite_wp h1
    have key : ∀ (xs : List τ) (acc : List υ), acc.length + (xs.filter fun x => p x s1).length ≤ 16777216 → lcS (fun x (s : S) => if p x s then .ok (some (f x s), s) else .ok (none, s)) xs acc s1 = .ok (acc ++ (xs.filter fun x => p x s1).map fun x => f x s1, s1) := fun xs => by
      induction xs with
      | nil => intro acc _; simp [lcS]
      | cons x xs ih =>
        intro acc hl
        unfold lcS
        by_cases c : p x s1 = true
        · rw [List.filter_cons_of_pos (p := fun x => p x s1) c] at hl ⊢
          rw [if_pos c]
          show (if acc.length + 1 ≤ 16777216 then _ else _) = _
          rw [List.length_cons] at hl
          rw [if_pos (by omega), ih (acc ++ [f x s1]) (by rw [List.length_append, List.length_singleton]; omega), List.append_assoc]; rfl
        · rw [List.filter_cons_of_neg (p := fun x => p x s1) c] at hl ⊢
          rw [if_neg c]
          exact ih acc hl
    refine loopC_S hg ht he xs [] s1 (wp_of (key xs [] (by simpa using h2)) ?_)
    have z := q _ s1 h3
    show k (.lst (([] ++ (xs.filter fun x => p x s1).map fun x => f x s1).map eo)) (μ s1)
    rw [List.nil_append]; exact z
theorem ej_lcM {τ υ : Type} {ei : τ → D} {eo : υ → D} {wi : WI} {wg : WG} {we : W} {us : List Nat} {ρt : τ → St'} {Ci : (List τ → S → Res β) → Res β} {f : τ → S → υ}
    (hi : IJ μ ρ s wi ei Ci) (hg : ∀ x, GJ wg (ei x) (wipe' ρ us) (ρt x)) (he : ∀ x s, EJ (β := Option υ × S) μ (ρt x) s we eo fun rest => rest (f x s) s) :
    EJ μ ρ s (wLc false wi wg wYes we us) (eL eo) fun rest => Ci fun xs s1 => (lcM (fun x => f x s1) xs).bind fun r => rest r s1 := fun k E Q rest h q =>
  ej_lcF (p := fun _ _ => true) hi hg (fun x s k E Q rest h q => q _ _ h) he k E Q rest (by
    have e : (fun (xs : List τ) (s1 : S) => (lcF (fun x => true) (fun x => f x s1) xs).bind fun r => rest r s1) = fun xs s1 => (lcM (fun x => f x s1) xs).bind fun r => rest r s1 := by
      funext xs s1
      unfold lcF lcM
      rw [List.filter_eq_self.mpr fun _ _ => rfl]
    show (Ci fun (xs : List τ) (s1 : S) => (lcF (fun x => true) (fun x => f x s1) xs).bind fun r => rest r s1).wp Q
    rw [e]; exact h) q
/-- .. that may fail, the state as it is -/
def lcR {τ υ : Type} (p : τ → Res Bool) (g : τ → Res υ) : List τ → List υ → Res (List υ)
  | [], acc => .ok acc
  | x :: xs, acc => (p x).bind fun b => if b then (g x).bind fun y => if acc.length + 1 ≤ 16777216 then lcR p g xs (acc ++ [y]) else .no else lcR p g xs acc
theorem ej_lcR {τ υ : Type} {ei : τ → D} {eo : υ → D} {wi : WI} {wg : WG} {wt : WT} {we : W} {us : List Nat} {ρt : τ → St'} {Ci : (List τ → S → Res β) → Res β} {Ct : τ → S → (Bool → S → Res Bool) → Res Bool} {Ce : τ → S → (υ → S → Res υ) → Res υ} (Ct' : τ → S → (Bool → Res Bool) → Res Bool) (Ce' : τ → S → (υ → Res υ) → Res υ)
    (hi : IJ μ ρ s wi ei Ci) (hg : ∀ x, GJ wg (ei x) (wipe' ρ us) (ρt x)) (ht : ∀ x s, TJ μ (ρt x) s wt (Ct x s)) (he : ∀ x s, EJ μ (ρt x) s we eo (Ce x s)) (het : ∀ x s rest, Ct x s rest = Ct' x s fun y => rest y s) (hee : ∀ x s rest, Ce x s rest = Ce' x s fun y => rest y s) :
    EJ μ ρ s (wLc false wi wg wt we us) (eL eo) fun rest => Ci fun xs s1 => (lcR (fun x => Ct' x s1 fun y => .ok y) (fun x => Ce' x s1 fun y => .ok y) xs []).bind fun r => rest r s1 := fun k E Q rest h q =>
  hi _ E Q _ h fun xs s1 h1 => by
    rw [wp_bind] at h1
    have key : ∀ (xs : List τ) (acc : List υ), (lcR (fun x => Ct' x s1 fun y => .ok y) (fun x => Ce' x s1 fun y => .ok y) xs acc).wp (fun r => k (.lst (r.map eo)) (μ s1)) → loopC [] wg wt we (wipe' ρ us) (fun acc M2 => mkL false acc M2 k) (xs.map ei) (acc.map eo) (μ s1) := fun xs => by
      induction xs with
      | nil => intro acc h; exact h
      | cons x xs ih =>
        intro acc h
        show wg (ei x) (wipe' ρ us) (μ s1) _ noX
        refine hg x _ _ _ ?_
        unfold lcR at h
        rw [wp_bind] at h
        refine keep (G := fun k => wt (ρt x) (μ s1) k noX) (fun k Q rest => ht x s1 k noX Q rest) (het x s1) h fun b h1 => ?_
        cases b with
        | false => exact br_f (ih acc h1)
        | true =>
          have h1 : ((Ce' x s1 fun y => Res.ok y).bind fun y => if acc.length + 1 ≤ 16777216 then lcR (fun x => Ct' x s1 fun y => .ok y) (fun x => Ce' x s1 fun y => .ok y) xs (acc ++ [y]) else .no).wp (fun r => k (.lst (r.map eo)) (μ s1)) := h1
          rw [wp_bind] at h1
          refine br_t (keep (G := fun k' => (∀ d M, k' d M → _) → we (ρt x) (μ s1) _ noX) (fun k' Q rest g g' hk => he x s1 _ noX Q rest g fun a s' z => hk a _ (g' a s' z)) (hee x s1) (k := fun y M => Sz ((acc.map eo).length + 1) (loopC [] wg wt we (wipe' ρ us) (fun acc M2 => mkL false acc M2 k) (xs.map ei) (acc.map eo ++ [eo y]) M)) h1 (fun y h2 => ?_) fun d M z => z)
          by_cases c : acc.length + 1 ≤ 16777216
          · rw [if_pos c] at h2
            refine sz (by rw [List.length_map]; exact c) ?_
            have z := ih (acc ++ [y]) h2
            rw [List.map_append] at z
            exact z
          · rw [if_neg c] at h2; cases h2
    exact key xs [] (h1.mono fun r h2 => q _ _ h2)
end
end Ty

set_option Elab.async false
set_option linter.all false
set_option maxRecDepth 100000
set_option maxHeartbeats 4000000
/-! Cells, statements, loops. -/
namespace Ty
open PySem PySem.Spec PyProof.Rows L2 Rl RZ RT Px
/-! ### cells -/
def CA {S T : Type} (μ : S → Mem) (p : Addr) (c : T → Cell) (get : S → T) (put : S → T → S) : Prop := ∀ s, ∃ N, N p = none ∧ μ s = mu N p (c (get s)) ∧ ∀ t, μ (put s t) = mu N p (c t)
def DI {S : Type} (μ : S → Mem) : Prop := ∀ s s' a, μ s a = none → μ s' a = none
/-- a cell is taken away -/
def CR {S T : Type} (μ : S → Mem) (p : Addr) (c : T → Cell) (get : S → T) (μ' : S → Mem) : Prop := ∀ s, μ s p = some (c (get s)) ∧ er (μ s) p = μ' s
section
variable {S T T' : Type} {μ μ' : S → Mem} {p p' : Addr} {c : T → Cell} {c' : T' → Cell} {get : S → T} {put : S → T → S}
theorem mu_none {M : Mem} {a b : Addr} {c : Cell} (h : mu M a c b = none) : b ≠ a ∧ M b = none := by
  by_cases e : b = a
  · subst e; rw [mu_same] at h; cases h
  · rw [mu_ne e] at h; exact ⟨e, h⟩
theorem mu_fresh {M : Mem} {a b : Addr} {c : Cell} (e : b ≠ a) (h : M b = none) : mu M a c b = none := by rw [mu_ne e]; exact h
/-- μ' is μ and a new cell -/
structure NewC {S T : Type} (μ : S → Mem) (μ' : S × T → Mem) (p : Addr) (c : T → Cell) : Prop where
  fr : ∀ s, μ s p = none
  eq : ∀ q, μ' q = mu (μ q.1) p (c q.2)
theorem di_unit {M : Mem} : DI fun _ : Unit => M := fun _ _ _ h => h
theorem di_base {M : Mem} : DI fun t : T => mu M p (c t) := fun _ _ _ h => mu_fresh (mu_none h).1 (mu_none h).2
theorem NewC.di {μ2 : S × T' → Mem} (n : NewC μ μ2 p' c') (h : DI μ) : DI μ2 := fun q q' a g => by
  rw [n.eq] at g ⊢
  exact mu_fresh (mu_none g).1 (h _ _ _ (mu_none g).2)
theorem ca_base {M : Mem} (h : M p = none) : CA (fun t : T => mu M p (c t)) p c (fun t => t) (fun _ t => t) := fun s => ⟨M, h, rfl, fun _ => rfl⟩
theorem NewC.ca {μ2 : S × T' → Mem} (n : NewC μ μ2 p' c') : CA μ2 p' c' (fun q => q.2) (fun q t => (q.1, t)) := fun q => ⟨μ q.1, n.fr _, n.eq q, fun _ => n.eq _⟩
theorem CA.up {μ2 : S × T' → Mem} (h : CA μ p c get put) (n : NewC μ μ2 p' c') : CA μ2 p c (fun q => get q.1) (fun q t => (put q.1 t, q.2)) := fun q => by
  obtain ⟨N, h0, h1, h3⟩ := h q.1
  have nn := n.fr q.1
  rw [h1] at nn
  have ne := (mu_none nn).1
  refine ⟨mu N p' (c' q.2), mu_fresh ne.symm h0, ?_, fun t => ?_⟩
  · rw [n.eq, h1, mu_comm ne.symm]
  · rw [n.eq]
    show mu (μ (put q.1 t)) p' _ = _
    rw [h3, mu_comm ne.symm]
theorem CA.at (h : CA μ p c get put) (s : S) : μ s p = some (c (get s)) := by
  obtain ⟨N, h0, h1, h3⟩ := h s
  rw [h1, mu_same]
theorem NewC.cr {μ2 : S × T' → Mem} (n : NewC μ μ2 p' c') : CR μ2 p' c' (fun q => q.2) (fun q => μ q.1) := fun q => ⟨by rw [n.eq, mu_same], by rw [n.eq]; exact er_mu (n.fr _)⟩
theorem CR.up {μ2 : S × T' → Mem} (h : CR μ p c get μ') (n : NewC μ μ2 p' c') : CR μ2 p c (fun q => get q.1) (fun q => mu (μ' q.1) p' (c' q.2)) := fun q => by
  obtain ⟨h0, h1⟩ := h q.1
  have ne : p' ≠ p := fun e => by have nn := n.fr q.1; rw [e, h0] at nn; cases nn
  exact ⟨by rw [n.eq, mu_ne ne.symm]; exact h0, by rw [n.eq, er_mu_ne ne, h1]⟩
/-- .. and then the one above -/
theorem CR.top {μ2 : S × T' → Mem} (h : CR μ p c get μ') (n : NewC μ μ2 p' c') (hk : ∀ s a, μ s a = none → μ' s a = none) : CR (fun q : S × T' => mu (μ' q.1) p' (c' q.2)) p' c' (fun q => q.2) (fun q => μ' q.1) := fun q => ⟨mu_same, er_mu (hk _ _ (n.fr _))⟩
theorem drop1 (h : CR μ p c get μ') {s : S} {k : Mem → Prop} (hk : k (μ' s)) : ern p (μ s) k := ern_of (by rw [(h s).2]; exact hk)
theorem frz1 (h : CR μ p c get μ') {s : S} {k : D → Mem → Prop} (hk : k (c (get s)).toD (μ' s)) : frzD (.ref p) (μ s) k := frz_of (h s).1 (by rw [(h s).2]; exact hk)
end
section
variable {S β : Type} {μ : S → Mem} {ρ : St'} {s : S}
/-! reading a cell -/
theorem ej_ixkC {T τ : Type} {p : Addr} {c : T → Cell} {get : S → T} {put : S → T → S} {e : τ → D} {i : Nat} {j : Int} (h : CA μ p c get put) (hi : ρ[i]? = some (some (.ref p))) (f : T → τ) (hd : ∀ t N (k : D → Mem → Prop), k (e (f t)) (mu N p (c t)) → dIx (.ref p) (.int j) (mu N p (c t)) k) : EJ (β := β) μ ρ s (wOp dIx (wVar i) (wC (.int j))) e fun rest => rest (f (get s)) s := fun k E Q rest h1 q => by
  have z := q _ _ h1
  show wVar i ρ (μ s) _ E
  unfold wVar; rw [hi]
  show dIx (.ref p) (.int j) (μ s) k
  obtain ⟨N, h0, e1, h3⟩ := h s
  rw [e1] at z ⊢
  exact hd _ _ _ z
theorem ej_ixC {τ : Type} {p : Addr} {e : τ → D} {get : S → List τ} {put : S → List τ → S} {i : Nat} {wi : W} {Ci : (Int → S → Res β) → Res β} (h : CA μ p (cL e) get put) (hi : ρ[i]? = some (some (.ref p))) (hj : EJ μ ρ s wi D.int Ci) : EJ μ ρ s (wOp dIx (wVar i) wi) e fun rest => Ci fun j s1 => (ixR (get s1) j).bind fun v => rest v s1 := fun k E Q rest h1 q => by
  show wVar i ρ (μ s) _ E
  unfold wVar; rw [hi]
  refine hj _ E Q _ h1 fun j s1 h2 => ?_
  obtain ⟨x, h3, h4⟩ := ixR_wp h2
  exact cell_of (h.at s1) (ix_of (by rw [atI_map', h3]; rfl) (q _ _ h4))
/-- a built-in upon a cell -/
def O1C (β : Type) {T τ : Type} (d : D1) (p : Addr) (c : T → Cell) (e : τ → D) (f : T → (τ → Res β) → Res β) : Prop :=
  ∀ t N (k : D → Mem → Prop) (Q : β → Prop) (rest : τ → Res β), (f t rest).wp Q → (∀ x, (rest x).wp Q → k (e x) (mu N p (c t))) → d (.ref p) (mu N p (c t)) k
theorem ej_cb1C {T τ : Type} {d : D1} {p : Addr} {c : T → Cell} {get : S → T} {put : S → T → S} {e : τ → D} {f : T → (τ → Res β) → Res β} {i : Nat} (h : CA μ p c get put) (hi : ρ[i]? = some (some (.ref p))) (hd : O1C β d p c e f) : EJ μ ρ s (wCB (b1 d) (waCons (wVar i) waNil)) e fun rest => f (get s) fun x => rest x s := fun k E Q rest h1 q => by
  show wVar i ρ (μ s) _ E
  unfold wVar; rw [hi]
  show d (.ref p) (μ s) k
  obtain ⟨N, h0, e1, h3⟩ := h s
  have q' : ∀ x, (rest x s).wp Q → k (e x) (mu N p (c (get s))) := fun x g => by rw [← e1]; exact q x s g
  rw [e1]
  exact hd _ N k Q _ h1 q'
theorem c_len {τ : Type} {e : τ → D} {p : Addr} : O1C β dLen p (cL e) D.int fun l rest => rest (l.length : Int) := fun t N k Q rest h q => by
  have z := q _ h
  refine cell_mu ?_
  rw [List.length_map]; exact z
theorem c_tuple {τ : Type} {e : τ → D} {p : Addr} : O1C β dTuple p (cL e) (eT e) fun l rest => rest l := fun t N k Q rest h q => cell_mu (q _ h)
theorem c_list {τ : Type} {e : τ → D} {p : Addr} : O1C β (dList false) p (cL e) (eL e) fun l rest => rest l := fun t N k Q rest h q => cell_mu (q _ h)
theorem c_sum {p : Addr} : O1C β dSum p (cL D.int) D.int fun l rest => rest l.sum := fun t N k Q rest h q => cell_mu (ints_of (q _ h))
theorem c_all {p : Addr} : O1C β dAll p (cL D.bl) D.bl fun l rest => rest (l.all id) := fun t N k Q rest h q => cell_mu (bls_of (q _ h))
theorem c_any {p : Addr} : O1C β dAny p (cL D.bl) D.bl fun l rest => rest (l.any id) := fun t N k Q rest h q => cell_mu (bls_of (q _ h))
theorem c_sorted {p : Addr} : O1C β (dSorted false) p (cL D.int) (eL D.int) fun l rest => (sortR l).bind rest := fun t N k Q rest h q => by
  obtain ⟨h1, h2⟩ := ite_wp h
  exact cell_mu (ints_of (is_sortL h1 (q _ h2)))
/-- x op cell -/
theorem ej_opC2 {T τ1 τ : Type} {d : D2} {p : Addr} {c : T → Cell} {get : S → T} {put : S → T → S} {e1 : τ1 → D} {e : τ → D} {f : τ1 → T → (τ → Res β) → Res β} {i : Nat} {wa : W} {Ca : (τ1 → S → Res β) → Res β} (h : CA μ p c get put) (hi : ρ[i]? = some (some (.ref p))) (hd : ∀ a t N (k : D → Mem → Prop) (Q : β → Prop) (rest : τ → Res β), (f a t rest).wp Q → (∀ x, (rest x).wp Q → k (e x) (mu N p (c t))) → d (e1 a) (.ref p) (mu N p (c t)) k) (ha : EJ μ ρ s wa e1 Ca) : EJ μ ρ s (wOp d wa (wVar i)) e fun rest => Ca fun a s1 => f a (get s1) fun x => rest x s1 := fun k E Q rest h1 q =>
  ha _ E Q _ h1 fun a s1 h2 => by
    show wVar i ρ (μ s1) _ E
    unfold wVar; rw [hi]
    show d (e1 a) (.ref p) (μ s1) k
    obtain ⟨N, h0, e1', h3⟩ := h s1
    have q' : ∀ x, (rest x s1).wp Q → k (e x) (mu N p (c (get s1))) := fun x g => by rw [← e1']; exact q x s1 g
    rw [e1']
    exact hd _ _ N k Q _ h2 q'
/-- cell op x -/
theorem ej_opC1 {T τ1 τ : Type} {d : D2} {p : Addr} {c : T → Cell} {get : S → T} {put : S → T → S} {e1 : τ1 → D} {e : τ → D} {f : T → τ1 → (τ → Res β) → Res β} {i : Nat} {wa : W} {Ca : (τ1 → S → Res β) → Res β} (h : CA μ p c get put) (hi : ρ[i]? = some (some (.ref p))) (hd : ∀ a t N (k : D → Mem → Prop) (Q : β → Prop) (rest : τ → Res β), (f t a rest).wp Q → (∀ x, (rest x).wp Q → k (e x) (mu N p (c t))) → d (.ref p) (e1 a) (mu N p (c t)) k) (ha : EJ μ ρ s wa e1 Ca) : EJ μ ρ s (wOp d (wVar i) wa) e fun rest => Ca fun a s1 => f (get s1) a fun x => rest x s1 := fun k E Q rest h1 q => by
  show wVar i ρ (μ s) _ E
  unfold wVar; rw [hi]
  refine ha _ E Q _ h1 fun a s1 h2 => ?_
  show d (.ref p) (e1 a) (μ s1) k
  obtain ⟨N, h0, e1', h3⟩ := h s1
  have q' : ∀ x, (rest x s1).wp Q → k (e x) (mu N p (c (get s1))) := fun x g => by rw [← e1']; exact q x s1 g
  rw [e1']
  exact hd _ _ N k Q _ h2 q'
section
variable {p : Addr} {τ : Type} {e : τ → D}
theorem c_eq [DecidableEq τ] {n : Nat} {q : τ → PyData} (hp : PDat e n q) (hn : n ≤ 63) (b : List τ) (t : List τ) (N : Mem) (k : Bool → Prop) (h : k (decide (t = b))) : eqD (.ref p) (eL e b) (mu N p (cL e t)) k :=
  eq_ref mu_same (pk_lst (pka_map hp t)) (pk_lst (pka_map hp b)) (by omega) (by omega) (by
    have z : PyData.eqv (.list (t.map q)) (.list (b.map q)) = decide (t = b) := by rw [Bool.eq_iff_iff, (pd_L hp).eqv]; simp
    rw [z]; exact h)
theorem oc_eq [DecidableEq τ] {n : Nat} {q : τ → PyData} (hp : PDat e n q) (hn : n ≤ 63) : ∀ (a : List τ) (t : List τ) N (k : D → Mem → Prop) (Q : β → Prop) (rest : Bool → Res β), (rest (decide (t = a))).wp Q → (∀ x, (rest x).wp Q → k (.bl x) (mu N p (cL e t))) → dEq (.ref p) (eL e a) (mu N p (cL e t)) k := fun a t N k Q rest h g => c_eq hp hn a t N _ (g _ h)
theorem oc_ne [DecidableEq τ] {n : Nat} {q : τ → PyData} (hp : PDat e n q) (hn : n ≤ 63) : ∀ (a : List τ) (t : List τ) N (k : D → Mem → Prop) (Q : β → Prop) (rest : Bool → Res β), (rest (!decide (t = a))).wp Q → (∀ x, (rest x).wp Q → k (.bl x) (mu N p (cL e t))) → dNe (.ref p) (eL e a) (mu N p (cL e t)) k := fun a t N k Q rest h g => c_eq hp hn a t N _ (g _ h)
theorem oc_inI : ∀ (a : Int) (t : List Int) N (k : D → Mem → Prop) (Q : β → Prop) (rest : Bool → Res β), (rest (decide (a ∈ t))).wp Q → (∀ x, (rest x).wp Q → k (.bl x) (mu N p (cL D.int t))) → dIn (.int a) (.ref p) (mu N p (cL D.int t)) k := fun a t N k Q rest h g => cell_mu (ints_of (g _ h))
theorem oc_ninI : ∀ (a : Int) (t : List Int) N (k : D → Mem → Prop) (Q : β → Prop) (rest : Bool → Res β), (rest (!decide (a ∈ t))).wp Q → (∀ x, (rest x).wp Q → k (.bl x) (mu N p (cL D.int t))) → dNin (.int a) (.ref p) (mu N p (cL D.int t)) k := fun a t N k Q rest h g => cell_mu (ints_of (g _ h))
theorem oc_addL : ∀ (a : List τ) (t : List τ) N (k : D → Mem → Prop) (Q : β → Prop) (rest : List τ → Res β), ((addL t a).bind rest).wp Q → (∀ x, (rest x).wp Q → k (eL e x) (mu N p (cL e t))) → dAdd false (.ref p) (eL e a) (mu N p (cL e t)) k := fun a t N k Q rest h g => by
  obtain ⟨h1, h2⟩ := ite_wp h
  have z := g _ h2
  exact cell_mu (sz (by rw [List.length_map, List.length_map]; exact h1) (by rw [← List.map_append]; exact z))
end
/-! a call that changes a cell -/
theorem ej_fnM {T τ υ : Type} {n m : Nat} {wf : WF} {wc : WC} {ea eb : τ → List D} {e : υ → D} {p : Addr} {c : T → Cell} {get : S → T} {put : S → T → S} {C : (τ → S → Res β) → Res β} (ha : CJ μ ρ s wc ea eb C) (mf : τ → T → Res (υ × T)) (h : CA μ p c get put) (hk : ∀ x P, P → Ck n (ea x) (Ck m (eb x) P)) (hw : ∀ x N t (k : D → Mem → Prop) E, N p = none → (mf x t).wp (fun r => k (e r.1) (mu N p (c r.2))) → wf (ea x) (mu N p (c t)) k E) :
    EJ μ ρ s (wFn n m wf wc) e fun rest => C fun x s1 => (mf x (get s1)).bind fun r => rest r.1 (put s1 r.2) := fun k E Q rest h0 q =>
  ha _ E Q _ h0 fun x s1 h1 => hk x _ (by
    obtain ⟨N, h2, h3, h4⟩ := h s1
    rw [wp_bind] at h1
    rw [h3]
    exact hw x N _ k E h2 (h1.mono fun r h5 => by rw [← h4]; exact q _ _ h5))
/-! ### statements -/
def BJ (μ : S → Mem) (ρ : St') (s : S) (ws : WS) (Φ : Ps → β → Prop) (m : Res β) : Prop := ∀ P E, m.wp (Φ P) → ws ρ (μ s) P E
/-- what a def's end says -/
def Φd {υ : Type} (e : υ → D) (M : υ → Mem) : Ps → υ → Prop := fun P r => P.rt (e r) (M r) ∧ ∀ ρ', e r = .non → P.nx ρ' (M r)
theorem Φd.of {υ : Type} {e : υ → D} {M : υ → Mem} {k : D → Mem → Prop} {r : υ} (h : k (e r) (M r)) : Φd e M { nx := fun _ M' => k .non M', rt := k } r := ⟨h, fun _ e1 => by rw [← e1]; exact h⟩
variable {Φ : Ps → β → Prop}
theorem bj_one {w : WS} {m : Res β} (h : BJ μ ρ s (wSeq w wNext) Φ m) : BJ μ ρ s w Φ m := h
theorem bj_assoc {a b c : WS} {m : Res β} (h : BJ μ ρ s (wSeq a (wSeq b c)) Φ m) : BJ μ ρ s (wSeq (wSeq a b) c) Φ m := h
theorem bj_skip {t : WS} {m : Res β} (h : BJ μ ρ s t Φ m) : BJ μ ρ s (wSeq wNext t) Φ m := h
theorem bj_kill {l : List Nat} {t : WS} {m : Res β} (h : BJ μ (wipe' ρ l) s t Φ m) : BJ μ ρ s (wKill l t) Φ m := h
theorem bj_killS {l : List Nat} {t u : WS} {m : Res β} (h : BJ μ (wipe' ρ l) s (wSeq t u) Φ m) : BJ μ ρ s (wSeq (wKill l t) u) Φ m := h
theorem bj_asg {τ : Type} {e : τ → D} {i : Nat} {we : W} {t : WS} {C : (τ → S → Res β) → Res β} {mT : τ → S → Res β} (h : EJ μ ρ s we e C) (hT : ∀ a s', BJ μ (ρ.set i (some (e a))) s' t Φ (mT a s')) : BJ μ ρ s (wSeq (wAsg we (wgName i)) t) Φ (C fun a s' => mT a s') := fun P E hm =>
  h _ E _ _ hm fun a s' h2 => hT a s' P E h2
theorem bj_asgG {τ : Type} {e : τ → D} {wg : WG} {we : W} {t : WS} {C : (τ → S → Res β) → Res β} {ρt : τ → St'} {mT : τ → S → Res β} (h : EJ μ ρ s we e C) (hg : ∀ a, GJ wg (e a) ρ (ρt a)) (hT : ∀ a s', BJ μ (ρt a) s' t Φ (mT a s')) : BJ μ ρ s (wSeq (wAsg we wg) t) Φ (C fun a s' => mT a s') := fun P E hm =>
  h _ E _ _ hm fun a s' h2 => hg a _ _ E (hT a s' P E h2)
theorem bj_par {τ1 τ2 : Type} {e1 : τ1 → D} {e2 : τ2 → D} {i j : Nat} {wa : WA} {t : WS} {C : (τ1 × τ2 → S → Res β) → Res β} {mT : τ1 × τ2 → S → Res β} (h : AJ μ ρ s wa (fun p => [e1 p.1, e2 p.2]) C) (hT : ∀ a s', BJ μ ((ρ.set i (some (e1 a.1))).set j (some (e2 a.2))) s' t Φ (mT a s')) : BJ μ ρ s (wSeq (wPar i j wa) t) Φ (C fun a s' => mT a s') := fun P E hm =>
  h _ E _ _ hm fun a s' h2 => hT a s' P E h2
theorem bj_par3 {τ1 τ2 τ3 : Type} {e1 : τ1 → D} {e2 : τ2 → D} {e3 : τ3 → D} {i j l : Nat} {wa : WA} {t : WS} {C : (τ1 × τ2 × τ3 → S → Res β) → Res β} {mT : τ1 × τ2 × τ3 → S → Res β} (h : AJ μ ρ s wa (fun p => [e1 p.1, e2 p.2.1, e3 p.2.2]) C) (hT : ∀ a s', BJ μ (((ρ.set i (some (e1 a.1))).set j (some (e2 a.2.1))).set l (some (e3 a.2.2))) s' t Φ (mT a s')) : BJ μ ρ s (wSeq (wPar3 i j l wa) t) Φ (C fun a s' => mT a s') := fun P E hm =>
  h _ E _ _ hm fun a s' h2 => hT a s' P E h2
theorem bj_drop {τ : Type} {e : τ → D} {we : W} {t : WS} {C : (τ → S → Res β) → Res β} {mT : τ → S → Res β} (h : EJ μ ρ s we e C) (hT : ∀ a s', BJ μ ρ s' t Φ (mT a s')) : BJ μ ρ s (wSeq (wDrop we) t) Φ (C fun a s' => mT a s') := fun P E hm =>
  h _ E _ _ hm fun a s' h2 => hT a s' P E h2
theorem bj_ret {τ : Type} {e : τ → D} {we : W} {t : WS} {C : (τ → S → Res β) → Res β} {fin : τ → S → β} (h : EJ μ ρ s we e C) (hΦ : ∀ P a s', Φ P (fin a s') → P.rt (e a) (μ s')) : BJ μ ρ s (wSeq (wRet we) t) Φ (C fun a s' => .ok (fin a s')) := fun P E hm =>
  h _ E _ _ hm fun a s' h2 => hΦ P a s' h2
/-- own cells are forgotten -/
theorem bj_retD {τ : Type} {e : τ → D} {we : W} {t : WS} {l : List Nat} {C : (τ → S → Res β) → Res β} {fin : τ → S → β} (h : EJ μ ρ s we e C) (hΦ : ∀ P a s', Φ P (fin a s') → drops l ρ (μ s') fun M2 => P.rt (e a) M2) : BJ μ ρ s (wSeq (wRet (wDp l we)) t) Φ (C fun a s' => .ok (fin a s')) := fun P E hm =>
  h _ E _ _ hm fun a s' h2 => hΦ P a s' h2
/-- a cell of one's own is handed out, frozen -/
theorem bj_retF {t : WS} {i : Nat} {p : Addr} {fin : S → β} (hi : ρ[i]? = some (some (.ref p))) (hΦ : ∀ P s', Φ P (fin s') → frzD (.ref p) (μ s') fun y M1 => P.rt y M1) : BJ μ ρ s (wSeq (wRet (wFz (wVar i))) t) Φ (.ok (fin s)) := fun P E hm => by
  unfold wSeq wRet
  simp only [wFz, wDp]
  show wVar i ρ (μ s) _ E
  unfold wVar; rw [hi]
  exact hΦ P s hm
theorem bj_retFD {t : WS} {i : Nat} {l : List Nat} {p : Addr} {fin : S → β} (hi : ρ[i]? = some (some (.ref p))) (hΦ : ∀ P s', Φ P (fin s') → frzD (.ref p) (μ s') fun y M1 => drops l ρ M1 fun M2 => P.rt y M2) : BJ μ ρ s (wSeq (wRet (wDp l (wFz (wVar i)))) t) Φ (.ok (fin s)) := fun P E hm => by
  unfold wSeq wRet
  simp only [wFz, wDp]
  show wVar i ρ (μ s) _ E
  unfold wVar; rw [hi]
  exact hΦ P s hm
theorem bj_retN {t : WS} {b : β} (hΦ : ∀ P, Φ P b → P.rt .non (μ s)) : BJ μ ρ s (wSeq wRetN t) Φ (.ok b) := fun P E hm => hΦ P hm
theorem bj_end {b : β} (hΦ : ∀ P, Φ P b → P.nx ρ (μ s)) : BJ μ ρ s wNext Φ (.ok b) := fun P E hm => hΦ P hm
theorem bj_never {t : WS} : BJ μ ρ s (wSeq wNever t) Φ (.no) := fun P E hm => hm.elim
theorem bj_if {wt : WT} {a b t : WS} {Ct : (Bool → S → Res β) → Res β} {m1 m2 : S → Res β} (ht : TJ μ ρ s wt Ct) (ha : ∀ s', BJ μ ρ s' (wSeq a t) Φ (m1 s')) (hb : ∀ s', BJ μ ρ s' (wSeq b t) Φ (m2 s')) : BJ μ ρ s (wSeq (wIfS wt a b) t) Φ (Ct fun c s' => if c then m1 s' else m2 s') := fun P E hm =>
  ht _ E _ _ hm fun c s' h2 => by
    cases c with
    | true => exact br_t (ha s' P E h2)
    | false => exact br_f (hb s' P E h2)
/-- both ways go on: joined -/
def Φj {σ : Type} (μ : S → Mem) (l : List Nat) (ρj : σ → St') : Ps → σ × S → Prop := fun P v => ∀ ρ', wipe' ρ' l = ρj v.1 → P.nx ρ' (μ v.2)
theorem bj_ifJ {σ : Type} {wt : WT} {a b t : WS} {l : List Nat} {ρj : σ → St'} {Ct : (Bool → S → Res (σ × S)) → Res (σ × S)} {m1 m2 : S → Res (σ × S)} {mT : σ → S → Res β} (ht : TJ μ ρ s wt Ct) (ha : ∀ s', BJ μ ρ s' a (Φj μ l ρj) (m1 s')) (hb : ∀ s', BJ μ ρ s' b (Φj μ l ρj) (m2 s')) (hT : ∀ v s', BJ μ (ρj v) s' t Φ (mT v s')) :
    BJ μ ρ s (wSeq (wIfS wt a b) (wKill l t)) Φ ((Ct fun c s' => if c then m1 s' else m2 s').bind fun v => mT v.1 v.2) := fun P E hm => by
  rw [wp_bind] at hm
  have go : ∀ v : σ × S, (mT v.1 v.2).wp (Φ P) → Φj μ l ρj { P with nx := fun ρ' M' => wKill l t ρ' M' P E } v := fun v h ρ' e => by
    show t (wipe' ρ' l) (μ v.2) P E
    rw [e]; exact hT _ _ P E h
  refine ht _ E _ _ hm fun c s' h2 => ?_
  cases c with
  | true => exact br_t (ha s' _ E (h2.mono go))
  | false => exact br_f (hb s' _ E (h2.mono go))
theorem bj_jn {σ : Type} {l : List Nat} {ρj : σ → St'} {v : σ} (h : wipe' ρ l = ρj v) : BJ μ ρ s wNext (Φj μ l ρj) (.ok (v, s)) := fun P E hm => hm ρ h
/-! ### loops -/
inductive Flow (σ S β : Type) where
  | nx (v : σ) (s : S)
  | bk (v : σ) (s : S)
  | rt (b : β)
def ΦL {σ : Type} (μ : S → Mem) (ks : List Nat) (ρh : σ → St') (Φ : Ps → β → Prop) : Ps → Flow σ S β → Prop
  | P, .nx v s => ∀ ρ', wipe' ρ' ks = ρh v → P.nx ρ' (μ s) ∧ P.ct ρ' (μ s)
  | P, .bk v s => ∀ ρ', wipe' ρ' ks = ρh v → P.bk ρ' (μ s)
  | P, .rt b => ∃ P0 : Ps, P0.rt = P.rt ∧ Φ P0 b
def forR {σ τ : Type} (step : σ → S → τ → Res (Flow σ S β)) (rest : σ → S → Res β) : List τ → σ → S → Res β
  | [], v, s => rest v s
  | x :: xs, v, s => (step v s x).bind fun r => match r with
    | .nx v s => forR step rest xs v s
    | .bk v s => rest v s
    | .rt b => .ok b
theorem bj_nx {σ : Type} {ks : List Nat} {ρh : σ → St'} {v : σ} (h : wipe' ρ ks = ρh v) : BJ μ ρ s wNext (ΦL μ ks ρh Φ) (.ok (.nx v s)) := fun P E hm => (hm ρ h).1
theorem bj_ct {σ : Type} {ks : List Nat} {ρh : σ → St'} {v : σ} {t : WS} (h : wipe' ρ ks = ρh v) : BJ μ ρ s (wSeq wCont t) (ΦL μ ks ρh Φ) (.ok (.nx v s)) := fun P E hm => (hm ρ h).2
theorem bj_bk {σ : Type} {ks : List Nat} {ρh : σ → St'} {v : σ} {t : WS} (h : wipe' ρ ks = ρh v) : BJ μ ρ s (wSeq wBrk t) (ΦL μ ks ρh Φ) (.ok (.bk v s)) := fun P E hm => hm ρ h
theorem bj_for {σ τ : Type} {ei : τ → D} {wi : WI} {wg : WG} {wb t : WS} {ks : List Nat} {ρh : σ → St'} {ρt : σ → τ → St'} {Ci : (List τ → S → Res β) → Res β} {step : σ → S → τ → Res (Flow σ S β)} {mT : σ → S → Res β} (v0 : σ)
    (hi : IJ μ ρ s wi ei Ci) (h0 : wipe' ρ ks = ρh v0) (hg : ∀ v x, GJ wg (ei x) (ρh v) (ρt v x)) (hb : ∀ v s x, BJ μ (ρt v x) s wb (ΦL μ ks ρh Φ) (step v s x)) (hT : ∀ v s, BJ μ (ρh v) s t Φ (mT v s)) :
    BJ μ ρ s (wSeq (wFor wi wg wb ks) t) Φ (Ci fun xs s1 => forR step mT xs v0 s1) := fun P E hm =>
  hi _ E _ _ hm fun xs s1 h1 => by
    rw [h0]
    have key : ∀ (xs : List τ) (v : σ) (s1 : S), (forR step mT xs v s1).wp (Φ P) → loopS [] wg wb ks { P with nx := fun ρ' M' => t ρ' M' P E } E (xs.map ei) (ρh v) (μ s1) := fun xs => by
      induction xs with
      | nil => exact fun v s1 h => hT v s1 P E h
      | cons x xs ih =>
        intro v s1 h
        show wg (ei x) (ρh v) (μ s1) _ E
        refine hg v x _ _ E (hb v s1 x _ E ?_)
        unfold forR at h
        rw [wp_bind] at h
        refine h.mono fun r h2 => ?_
        cases r with
        | nx v' s' =>
          have z := ih v' s' h2
          exact fun ρ' e => by
            show loopS [] wg wb ks _ E (xs.map ei) (wipe' ρ' ks) (μ s') ∧ loopS [] wg wb ks _ E (xs.map ei) (wipe' ρ' ks) (μ s')
            rw [e]; exact ⟨z, z⟩
        | bk v' s' =>
          exact fun ρ' e => by
            show t (wipe' ρ' ks) (μ s') P E
            rw [e]; exact hT v' s' P E h2
        | rt b => exact ⟨P, rfl, h2⟩
    exact key xs v0 s1 h1
def whN {σ : Type} (cond : σ → S → Res Bool) (body : σ → S → Res (Flow σ S β)) : Nat → σ → S → Res (Flow σ S β)
  | 0, _, _ => .no
  | n + 1, v, s => (cond v s).bind fun b => if b then (body v s).bind fun r => match r with
    | .nx v s => whN cond body n v s
    | .bk v s => .ok (.nx v s)
    | .rt b => .ok (.rt b) else .ok (.nx v s)
open Classical in
noncomputable def whR {σ : Type} (cond : σ → S → Res Bool) (body : σ → S → Res (Flow σ S β)) (v : σ) (s : S) : Res (Flow σ S β) := if h : ∃ n r, whN cond body n v s = .ok r then whN cond body h.choose v s else .no
theorem whN_mono {σ : Type} {cond : σ → S → Res Bool} {body : σ → S → Res (Flow σ S β)} : ∀ {n : Nat} {v : σ} {s : S} {r : Flow σ S β} (m : Nat), whN cond body n v s = .ok r → n ≤ m → whN cond body m v s = .ok r
  | 0, _, _, _, _, h, _ => by cases h
  | n + 1, v, s, r, 0, h, hm => absurd hm (by omega)
  | n + 1, v, s, r, m + 1, h, hm => by
    unfold whN at h ⊢
    cases e : cond v s with
    | ok b =>
      rw [e] at h
      rw [bind_ok] at h ⊢
      cases b with
      | false => exact h
      | true =>
        rw [if_pos rfl] at h ⊢
        cases e2 : body v s with
        | ok q =>
          rw [e2] at h
          rw [bind_ok] at h ⊢
          cases q with
          | nx v' s' => exact whN_mono m h (by omega)
          | bk v' s' => exact h
          | rt b => exact h
        | ex x => rw [e2] at h; cases h
        | no => rw [e2] at h; cases h
    | ex x => rw [e] at h; cases h
    | no => rw [e] at h; cases h
theorem whR_of {σ : Type} {cond : σ → S → Res Bool} {body : σ → S → Res (Flow σ S β)} {n : Nat} {v : σ} {s : S} {r : Flow σ S β} (h : whN cond body n v s = .ok r) : whR cond body v s = .ok r := by
  unfold whR
  have hx : ∃ n r, whN cond body n v s = .ok r := ⟨n, r, h⟩
  rw [dif_pos hx]
  obtain ⟨r', e⟩ := hx.choose_spec
  rcases Nat.le_total n hx.choose with c | c
  · exact whN_mono _ h c
  · have z := whN_mono _ e c
    rw [h] at z; cases z; exact e
theorem whR_ex {σ : Type} {cond : σ → S → Res Bool} {body : σ → S → Res (Flow σ S β)} {v : σ} {s : S} {Q : Flow σ S β → Prop} (h : (whR cond body v s).wp Q) : ∃ n, (whN cond body n v s).wp Q := by
  unfold whR at h
  split at h
  · exact ⟨_, h⟩
  · cases h
def afterR {σ : Type} (rest : σ → S → Res β) : Flow σ S β → Res β
  | .nx v s => rest v s
  | .bk v s => rest v s
  | .rt b => .ok b
theorem bj_while {σ : Type} {wt : WT} {wb t : WS} {ks : List Nat} {ρh : σ → St'} {Ct : σ → S → (Bool → S → Res Bool) → Res Bool} (Ct' : σ → S → (Bool → Res Bool) → Res Bool) {body : σ → S → Res (Flow σ S β)} {mT : σ → S → Res β} (v0 : σ)
    (h0 : wipe' ρ ks = ρh v0) (ht : ∀ v s, TJ μ (ρh v) s wt (Ct v s)) (he : ∀ v s rest, Ct v s rest = Ct' v s fun y => rest y s) (hb : ∀ v s, BJ μ (ρh v) s wb (ΦL μ ks ρh Φ) (body v s)) (hT : ∀ v s, BJ μ (ρh v) s t Φ (mT v s)) :
    BJ μ ρ s (wSeq (wWhile wt wb ks) t) Φ ((whR (fun v s => Ct' v s fun y => .ok y) body v0 s).bind (afterR mT)) := fun P E hm => by
  rw [wp_bind] at hm
  obtain ⟨n, h⟩ := whR_ex hm
  refine ⟨n, ?_⟩
  rw [h0]
  have key : ∀ (n : Nat) (v : σ) (s : S), (whN (fun v s => Ct' v s fun y => .ok y) body n v s).wp (fun r => (afterR mT r).wp (Φ P)) → whileN wt wb ks { P with nx := fun ρ' M' => t ρ' M' P E } E n (ρh v) (μ s) := fun n => by
    induction n with
    | zero => exact fun v s h => h.elim
    | succ n ih =>
      intro v s h
      unfold whN at h
      rw [wp_bind] at h
      refine keep (G := fun k => wt (ρh v) (μ s) k E) (fun k Q rest => ht v s k E Q rest) (he v s) h fun b h1 => ?_
      cases b with
      | false => exact br_f (hT v s P E h1)
      | true =>
        have h1 : ((body v s).bind fun r => match r with
          | .nx v s => whN (fun v s => Ct' v s fun y => .ok y) body n v s
          | .bk v s => .ok (.nx v s)
          | .rt b => .ok (.rt b)).wp (fun r => (afterR mT r).wp (Φ P)) := h1
        rw [wp_bind] at h1
        refine br_t (hb v s _ E (h1.mono fun r h2 => ?_))
        cases r with
        | nx v' s' =>
          have z := ih v' s' h2
          exact fun ρ' e => by
            show whileN wt wb ks _ E n (wipe' ρ' ks) (μ s') ∧ whileN wt wb ks _ E n (wipe' ρ' ks) (μ s')
            rw [e]; exact ⟨z, z⟩
        | bk v' s' =>
          exact fun ρ' e => by
            show t (wipe' ρ' ks) (μ s') P E
            rw [e]; exact hT v' s' P E h2
        | rt b => exact ⟨P, rfl, h2⟩
  exact key n v0 s h
theorem rtL {σ : Type} {ks : List Nat} {ρh : σ → St'} {b : β} (F : (D → Mem → Prop) → Prop) (h : ∀ P : Ps, Φ P b → F P.rt) (P : Ps) (g : ΦL μ ks ρh Φ P (.rt b)) : F P.rt := by
  obtain ⟨P0, e, g⟩ := g
  rw [← e]; exact h P0 g
/-! ### changing cells -/
theorem bj_app {τ : Type} {e : τ → D} {p : Addr} {get : S → List τ} {put : S → List τ → S} {i : Nat} {we : W} {t : WS} {C : (τ → S → Res β) → Res β} {mT : S → Res β} (h : CA μ p (cL e) get put) (hi : ρ[i]? = some (some (.ref p))) (ha : EJ μ ρ s we e C) (hT : ∀ s', BJ μ ρ s' t Φ (mT s')) : BJ μ ρ s (wSeq (wDrop (wBL dApp (wVar i) (waCons we waNil))) t) Φ (C fun a s' => (appR (get s') a).bind fun l => mT (put s' l)) := fun P E hm => by
  unfold wSeq wDrop wBL
  show wVar i ρ (μ s) _ E
  unfold wVar; rw [hi]
  show tyL (.ref p) (μ s) _
  refine cell_of (h.at s) (ha _ E _ _ hm fun a s' h2 => ?_)
  obtain ⟨h3, h4⟩ := ite_wp h2
  refine cell_of (h.at s') (sz (by rw [List.length_map]; exact h3) ?_)
  obtain ⟨N, e0, e1, e2⟩ := h s'
  rw [e1]
  refine mun_mu ?_
  have z := hT _ P E h4
  rw [e2, show cL e (get s' ++ [a]) = .lst ((get s').map e ++ [e a]) by simp] at z
  exact z
theorem bj_ext {τ : Type} {e : τ → D} {p : Addr} {get : S → List τ} {put : S → List τ → S} {i : Nat} {we : W} {t : WS} {C : (List τ → S → Res β) → Res β} {mT : S → Res β} (h : CA μ p (cL e) get put) (hi : ρ[i]? = some (some (.ref p))) (ha : EJ μ ρ s we (eL e) C) (hT : ∀ s', BJ μ ρ s' t Φ (mT s')) : BJ μ ρ s (wSeq (wDrop (wBL dExt (wVar i) (waCons we waNil))) t) Φ (C fun a s' => (addL (get s') a).bind fun l => mT (put s' l)) := fun P E hm => by
  unfold wSeq wDrop wBL
  show wVar i ρ (μ s) _ E
  unfold wVar; rw [hi]
  show tyL (.ref p) (μ s) _
  refine cell_of (h.at s) (ha _ E _ _ hm fun a s' h2 => ?_)
  obtain ⟨h3, h4⟩ := ite_wp h2
  refine cell_of (h.at s') (sz (by rw [List.length_map, List.length_map]; exact h3) ?_)
  obtain ⟨N, e0, e1, e2⟩ := h s'
  rw [e1]
  refine mun_mu ?_
  have z := hT _ P E h4
  rw [e2, show cL e (get s' ++ a) = .lst ((get s').map e ++ a.map e) by simp] at z
  exact z
theorem bj_set {τ : Type} {e : τ → D} {p : Addr} {get : S → List τ} {put : S → List τ → S} {i : Nat} {we wi : W} {t : WS} {C : (τ → S → Res β) → Res β} {Ci : τ → S → (Int → S → Res β) → Res β} {mT : S → Res β} (h : CA μ p (cL e) get put) (hi : ρ[i]? = some (some (.ref p))) (ha : EJ μ ρ s we e C) (hj : ∀ a s1, EJ μ ρ s1 wi D.int (Ci a s1)) (hT : ∀ s', BJ μ ρ s' t Φ (mT s')) : BJ μ ρ s (wSeq (wAsg we (wgSub (wVar i) wi)) t) Φ (C fun a s1 => Ci a s1 fun j s' => (setR (get s') j a).bind fun l => mT (put s' l)) := fun P E hm =>
  ha _ E _ _ hm fun a s1 h1 => by
    show wVar i ρ (μ s1) _ E
    unfold wVar; rw [hi]
    refine hj a s1 _ E _ _ h1 fun j s' h2 => ?_
    obtain ⟨N, e0, e1, e2⟩ := h s'
    show setD (.ref p) (.int j) (e a) (μ s') _
    have h2 : ((setR (get s') j a).bind fun l => mT (put s' l)).wp (Φ P) := h2
    unfold setR at h2
    split at h2
    · rename_i n hn
      have z := hT _ P E (show (mT (put s' ((get s').set n a))).wp (Φ P) from h2)
      rw [e2, show cL e ((get s').set n a) = .lst (((get s').map e).set n (e a)) by simp [List.map_set]] at z
      rw [e1]
      exact set_mu (n := n) (by rw [List.length_map]; exact hn) z
    · cases h2
/-- a written place of a cell whose items are of unlike kinds -/
theorem bj_setk {T τ : Type} {e : τ → D} {p : Addr} {c : T → Cell} {get : S → T} {put : S → T → S} {i : Nat} {j : Int} {we : W} {t : WS} {C : (τ → S → Res β) → Res β} {mT : S → Res β} (upd : T → τ → T) (h : CA μ p c get put) (hi : ρ[i]? = some (some (.ref p))) (hd : ∀ t a N (k : Mem → Prop), k (mu N p (c (upd t a))) → setD (.ref p) (.int j) (e a) (mu N p (c t)) k) (ha : EJ μ ρ s we e C) (hT : ∀ s', BJ μ ρ s' t Φ (mT s')) : BJ μ ρ s (wSeq (wAsg we (wgSub (wVar i) (wC (.int j)))) t) Φ (C fun a s' => mT (put s' (upd (get s') a))) := fun P E hm =>
  ha _ E _ _ hm fun a s' h1 => by
    show wVar i ρ (μ s') _ E
    unfold wVar; rw [hi]
    show setD (.ref p) (.int j) (e a) (μ s') _
    obtain ⟨N, e0, e1, e2⟩ := h s'
    have z := hT _ P E h1
    rw [e2] at z
    rw [e1]
    exact hd _ _ _ _ z
/-- a new cell -/
def NJ {T : Type} (μ : S → Mem) (ρ : St') (s : S) (we : W) (c : T → Cell) (C : (T → S → Res β) → Res β) : Prop :=
  ∀ (k : D → Mem → Prop) (E : XP) (Q : β → Prop) (rest : T → S → Res β), (C rest).wp Q → (∀ a s', (rest a s').wp Q → ∀ p, μ s' p = none → k (.ref p) (mu (μ s') p (c a))) → we ρ (μ s) k E
theorem bj_new {T : Type} {c : T → Cell} {i : Nat} {we : W} {t : WS} {C : (T → S → Res β) → Res β} {mT : T → S → Res β} (hD : DI μ) (h : NJ μ ρ s we c C) (hT : ∀ a s' p (μ' : S × T → Mem), NewC μ μ' p c → BJ μ' (ρ.set i (some (.ref p))) (s', a) t Φ (mT a s')) : BJ μ ρ s (wSeq (wAsg we (wgName i)) t) Φ (C fun a s' => mT a s') := fun P E hm =>
  h _ E _ _ hm fun a s' h2 p hp => hT a s' p (fun q => mu (μ q.1) p (c q.2)) ⟨fun s => hD _ _ _ hp, fun _ => rfl⟩ P E h2
theorem nj_lst {T : Type} {c : T → Cell} {ea : T → List D} {wa : WA} {C : (T → S → Res β) → Res β} (h : AJ μ ρ s wa ea C) (hl : ∀ a, (ea a).length ≤ 16777216) (hc : ∀ a, c a = .lst (ea a)) : NJ μ ρ s (wLst true wa) c C := fun k E Q rest h1 q =>
  h _ E Q _ h1 fun a s' h2 => sz (hl a) fun p hp => by rw [← hc]; exact q a s' h2 p hp
theorem nj_lstL {τ : Type} {e : τ → D} {wa : WA} {n : Nat} {C : (List τ → S → Res β) → Res β} (h : LJ μ ρ s wa e n C) (hn : n ≤ 16777216) : NJ μ ρ s (wLst true wa) (cL e) C := fun k E Q rest h1 q =>
  h _ E Q _ h1 fun a s1 hl h2 => sz (by rw [List.length_map]; omega) fun p hp => q a s1 h2 p hp
theorem nj_list {τ : Type} {e : τ → D} {we : W} {C : (List τ → S → Res β) → Res β} (h : EJ μ ρ s we (eL e) C) : NJ μ ρ s (wCB (b1 (dList true)) (waCons we waNil)) (cL e) C := fun k E Q rest h1 q =>
  h _ E Q _ h1 fun a s1 h2 p hp => q a s1 h2 p hp
theorem nj_listT {τ : Type} {e : τ → D} {we : W} {C : (List τ → S → Res β) → Res β} (h : EJ μ ρ s we (eT e) C) : NJ μ ρ s (wCB (b1 (dList true)) (waCons we waNil)) (cL e) C := fun k E Q rest h1 q =>
  h _ E Q _ h1 fun a s1 h2 p hp => q a s1 h2 p hp
theorem bj_retN' {T : Type} {c : T → Cell} {we : W} {t : WS} {C : (T → S → Res β) → Res β} {fin : T → S → β} (h : NJ μ ρ s we c C) (hΦ : ∀ P a s', Φ P (fin a s') → ∀ p, μ s' p = none → P.rt (.ref p) (mu (μ s') p (c a))) : BJ μ ρ s (wSeq (wRet we) t) Φ (C fun a s' => .ok (fin a s')) := fun P E hm =>
  h _ E _ _ hm fun a s' h2 p hp => hΦ P a s' h2 p hp
/-- a call that hands out a new cell -/
theorem nj_fn {τ T : Type} {n m : Nat} {wf : WF} {wc : WC} {ea eb : τ → List D} {c : T → Cell} {C : (τ → S → Res β) → Res β} (ha : CJ μ ρ s wc ea eb C) (mf : τ → Res T) (hk : ∀ x P, P → Ck n (ea x) (Ck m (eb x) P)) (hw : ∀ x M (k : D → Mem → Prop) E, (mf x).wp (fun r => ∀ p, M p = none → k (.ref p) (mu M p (c r))) → wf (ea x) M k E) :
    NJ μ ρ s (wFn n m wf wc) c fun rest => C fun x s1 => (mf x).bind fun r => rest r s1 := fun k E Q rest h q =>
  ha _ E Q _ h fun x s1 h1 => hk x _ (hw x _ k E (by rw [wp_bind] at h1; exact h1.mono fun r h2 => q r s1 h2))
/-- a comprehension's list, to be changed later -/
theorem nj_lcS {τ υ : Type} {ei : τ → D} {eo : υ → D} {wi : WI} {wg : WG} {wt : WT} {we : W} {us : List Nat} {ρt : τ → St'} {Ci : (List τ → S → Res β) → Res β} {Ct : τ → S → (Bool → S → Res (Option υ × S)) → Res (Option υ × S)} {Ce : τ → S → (υ → S → Res (Option υ × S)) → Res (Option υ × S)}
    (hi : IJ μ ρ s wi ei Ci) (hg : ∀ x, GJ wg (ei x) (wipe' ρ us) (ρt x)) (ht : ∀ x s, TJ μ (ρt x) s wt (Ct x s)) (he : ∀ x s, EJ μ (ρt x) s we eo (Ce x s)) :
    NJ μ ρ s (wLc true wi wg wt we us) (cL eo) fun rest => Ci fun xs s1 => (lcS (fun x s => Ct x s fun b s1 => if b then Ce x s1 fun y s2 => .ok (some y, s2) else .ok (none, s1)) xs [] s1).bind fun r => rest r.1 r.2 := fun k E Q rest h q =>
  hi _ E Q _ h fun xs s1 h1 => by
    rw [wp_bind] at h1
    exact loopC_S hg ht he xs [] s1 (h1.mono fun r h2 p hp => q _ _ h2 p hp)
end
end Ty

set_option Elab.async false
set_option linter.all false
set_option maxRecDepth 100000
set_option maxHeartbeats 4000000
/-! Making instances; ways that are not gone; chains. -/
namespace Ty
open PySem PySem.Spec PyProof.Rows L2 Rl RZ RT Px
section
variable {S β : Type} {μ : S → Mem} {ρ : St'} {s : S} {Φ : Ps → β → Prop}
theorem bj_no {w : WS} : BJ μ ρ s w Φ .no := fun P E h => h.elim
theorem tj_no {w : WT} : TJ (β := β) μ ρ s w fun _ => .no := fun k E Q rest h q => h.elim
theorem ej_no {τ : Type} {e : τ → D} {w : W} : EJ (β := β) μ ρ s w e fun _ => .no := fun k E Q rest h q => h.elim
theorem aj_no {τ : Type} {e : τ → List D} {w : WA} : AJ (β := β) μ ρ s w e fun _ => .no := fun k E Q rest h q => h.elim
def optR {α γ : Type} (x : Option α) (a : γ) (b : α → γ) : γ := match x with
  | none => a
  | some y => b y
theorem bj_opt {τ : Type} (x : Option τ) (ρf : Option τ → St') {w : WS} {m1 : Res β} {m2 : τ → Res β} (h1 : BJ μ (ρf none) s w Φ m1) (h2 : ∀ y, BJ μ (ρf (some y)) s w Φ (m2 y)) : BJ μ (ρf x) s w Φ (optR x m1 m2) := by
  cases x with
  | none => exact h1
  | some y => exact h2 y
theorem ej_chain {τ1 τ2 τ3 : Type} {d d' : D2} {e1 : τ1 → D} {e2 : τ2 → D} {e3 : τ3 → D} {wa wb wc : W} {Ca : (τ1 → S → Res β) → Res β} {Cb : τ1 → S → (τ2 → S → Res β) → Res β} {c : τ1 → τ2 → S → τ3} {f : τ1 → τ2 → Bool} {g : τ2 → τ3 → Bool}
    (hd : ∀ a b M (k : D → Mem → Prop), k (.bl (f a b)) M → d (e1 a) (e2 b) M k) (hd' : ∀ a b M (k : D → Mem → Prop), k (.bl (g a b)) M → d' (e2 a) (e3 b) M k) (ha : EJ μ ρ s wa e1 Ca) (hb : ∀ a s1, EJ μ ρ s1 wb e2 (Cb a s1)) (hc : ∀ a b s2, EJ (β := β) μ ρ s2 wc e3 fun rest => rest (c a b s2) s2) :
    EJ μ ρ s (wChain d d' wa wb wc) D.bl fun rest => Ca fun a s1 => Cb a s1 fun b s2 => rest (f a b && g b (c a b s2)) s2 := fun k E Q rest h q =>
  ha _ E Q _ h fun a s1 h1 => hb a s1 _ E Q _ h1 fun b s2 h2 => hd a b _ _ (by
    show Br (f a b) _ _
    cases e : f a b with
    | true =>
      refine br_t (hc a b s2 _ E Q (fun x s3 => rest (f a b && g b x) s3) h2 fun x s3 h3 => hd' _ _ _ _ ?_)
      have z := q _ s3 h3
      rw [e] at z; exact z
    | false =>
      have h2 : (rest (f a b && g b (c a b s2)) s2).wp Q := h2
      have z := q _ s2 h2
      rw [e] at z
      exact br_f z)
theorem k_lt (a b : Int) (M : Mem) (k : D → Mem → Prop) (h : k (.bl (decide (a < b))) M) : dLt (.int a) (.int b) M k := h
theorem k_le (a b : Int) (M : Mem) (k : D → Mem → Prop) (h : k (.bl (decide (a ≤ b))) M) : dLe (.int a) (.int b) M k := h
theorem k_gt (a b : Int) (M : Mem) (k : D → Mem → Prop) (h : k (.bl (decide (a > b))) M) : dGt (.int a) (.int b) M k := h
theorem k_ge (a b : Int) (M : Mem) (k : D → Mem → Prop) (h : k (.bl (decide (a ≥ b))) M) : dGe (.int a) (.int b) M k := h
theorem k_eq (a b : Int) (M : Mem) (k : D → Mem → Prop) (h : k (.bl (decide (a = b))) M) : dEq (.int a) (.int b) M k := h
theorem map_eX {τ : Type} (e : τ → D) (l : List τ) : l.map e = (l.map e).map eX := by rw [List.map_map]; rfl
theorem map_some {τ : Type} (e : τ → D) (l : List τ) : l.map e = (l.map some).map (eO e) := by rw [List.map_map]; rfl
/-! ### making an instance -/
/-- what an __init__'s end says -/
def Φi {υ : Type} (M : υ → Mem) : Ps → υ → Prop := fun P r => P.rt .non (M r) ∧ ∀ ρ', P.nx ρ' (M r)
section
variable {M : Mem} {p : Addr} {c : Str} {ns : List Str} {fs : S → List D}
theorem bj_fset {τ : Type} {e : τ → D} {cs : List Str} {f : Str} {we : W} {t : WS} {C : (τ → S → Res β) → Res β} {mT : τ → S → Res β} (hi : ρ[0]? = some (some (.ref p))) (hl : ∀ q, ns.length = (fs q).length) (hn : ns.contains f = false) (hm : ns.length < 1000) (hc : c ∈ cs) (h : EJ (fun q => mu M p (.ins c ns (fs q))) ρ s we e C)
    (hT : ∀ a s', BJ (fun q : S × τ => mu M p (.ins c (ns ++ [f]) (fs q.1 ++ [e q.2]))) ρ (s', a) t Φ (mT a s')) : BJ (fun q => mu M p (.ins c ns (fs q))) ρ s (wSeq (wSetF cs f (wVar 0) we) t) Φ (C fun a s' => mT a s') := fun P E hm' =>
  h _ E _ _ hm' fun a s' h2 => by
    show wVar 0 ρ _ _ E
    unfold wVar; rw [hi]
    exact att_new hn (hl s') hc hm (hT a s' P E h2)
theorem ej_fldS {τ : Type} {e : τ → D} {f : Str} (g : S → τ) (hi : ρ[0]? = some (some (.ref p))) (hf : ∀ q, fget ns (fs q) f = some (e (g q))) : EJ (β := β) (fun q => mu M p (.ins c ns (fs q))) ρ s (wFld f (wVar 0)) e fun rest => rest (g s) s := fun k E Q rest h q => by
  show wVar 0 ρ _ _ E
  unfold wVar; rw [hi]
  exact cellI_mu (fld (hf s) (q _ s h))
end
end
end Ty

set_option Elab.async false
set_option linter.all false
set_option maxRecDepth 100000
set_option maxHeartbeats 4000000
/-! More: texts within data, and small things. -/
namespace Ty
open PySem PySem.Spec PyProof.Rows L2 Rl RZ RT Px
structure PDg {τ : Type} (e : τ → D) (n : Nat) (p : τ → PyData) (okf : τ → Bool) : Prop where
  pk : ∀ x, okf x = true → Pk n (e x) (p x)
  eqv : ∀ x y, PyData.eqv (p x) (p y) = true ↔ x = y
def okS (z : Str) : Bool := PyData.canLay0 (.str z)
def okA {τ : Type} (_ : τ) : Bool := true
def okL {τ : Type} (f : τ → Bool) (l : List τ) : Bool := l.all f
def ok2 {τ1 τ2 : Type} (f : τ1 → Bool) (g : τ2 → Bool) (p : τ1 × τ2) : Bool := f p.1 && g p.2
theorem pg_of {τ : Type} {e : τ → D} {n : Nat} {p : τ → PyData} (h : PDat e n p) : PDg e n p okA := ⟨fun x _ => h.pk x, h.eqv⟩
theorem pg_str : PDg D.str 0 .str okS := ⟨fun x h => pk_str h, fun x y => by simp [PyData.eqv]⟩
theorem pgk_map {τ : Type} {e : τ → D} {n : Nat} {p : τ → PyData} {f : τ → Bool} (h : PDg e n p f) : ∀ l : List τ, okL f l = true → PkAll n (l.map e) (l.map p)
  | [], _ => pka_nil
  | x :: l, g => by
    have g := Bool.and_eq_true_iff.mp (show (f x && l.all f) = true from g)
    exact pka_cons (h.pk x g.1) (pgk_map h l g.2)
theorem gqv_map {τ : Type} {e : τ → D} {n : Nat} {p : τ → PyData} {f : τ → Bool} (h : PDg e n p f) : ∀ l m : List τ, PyData.eqvAll (l.map p) (m.map p) = true ↔ l = m
  | [], [] => by simp [PyData.eqvAll]
  | [], _ :: _ => by simp [PyData.eqvAll]
  | _ :: _, [] => by simp [PyData.eqvAll]
  | i :: l, j :: m => by
    simp only [List.map_cons, PyData.eqvAll, Bool.and_eq_true, h.eqv, gqv_map h l m, List.cons.injEq]
theorem pg_L {τ : Type} {e : τ → D} {n : Nat} {p : τ → PyData} {f : τ → Bool} (h : PDg e n p f) : PDg (eL e) (n + 1) (fun l => .list (l.map p)) (okL f) := ⟨fun l g => pk_lst (pgk_map h l g), fun l m => by simp only [PyData.eqv, gqv_map h]⟩
theorem pg_T {τ : Type} {e : τ → D} {n : Nat} {p : τ → PyData} {f : τ → Bool} (h : PDg e n p f) : PDg (eT e) (n + 1) (fun l => .tuple (l.map p)) (okL f) := ⟨fun l g => pk_tup (pgk_map h l g), fun l m => by simp only [PyData.eqv, gqv_map h]⟩
theorem pg_T2 {τ1 τ2 : Type} {e1 : τ1 → D} {e2 : τ2 → D} {n1 n2 : Nat} {p1 : τ1 → PyData} {p2 : τ2 → PyData} {f1 : τ1 → Bool} {f2 : τ2 → Bool} (h1 : PDg e1 n1 p1 f1) (h2 : PDg e2 n2 p2 f2) : PDg (eT2 e1 e2) (n1 + n2 + 1) (fun q => .tuple [p1 q.1, p2 q.2]) (ok2 f1 f2) :=
  ⟨fun q g => by
    have g := Bool.and_eq_true_iff.mp g
    exact pk_tup (pka_cons (pk_mono (h1.pk q.1 g.1) (by omega)) (pka_cons (pk_mono (h2.pk q.2 g.2) (by omega)) pka_nil)), fun q r => by
    simp only [PyData.eqv, PyData.eqvAll, Bool.and_eq_true, Bool.and_true, h1.eqv, h2.eqv, Prod.ext_iff]⟩
def eqR {τ : Type} [DecidableEq τ] (okf : τ → Bool) (a b : τ) : Res Bool := if okf a = true ∧ okf b = true then .ok (decide (a = b)) else .no
section
variable {β : Type}
theorem geq {τ : Type} [DecidableEq τ] {e : τ → D} {n : Nat} {p : τ → PyData} {okf : τ → Bool} (h : PDg e n p okf) (x y : τ) : PyData.eqv (p x) (p y) = decide (x = y) := by
  rw [Bool.eq_iff_iff, h.eqv]; simp
theorem o_eqG {τ : Type} [DecidableEq τ] {e : τ → D} {n : Nat} {p : τ → PyData} {okf : τ → Bool} (h : PDg e n p okf) (hn : n ≤ 64) (he : ∀ x y M k, eqG (e x) (e y) M k → eqD (e x) (e y) M k) : O2 β dEq e e D.bl fun a b rest => (eqR okf a b).bind rest := fun a b M k Q rest h1 q => by
  obtain ⟨h2, h3⟩ := ite_wp h1
  exact he _ _ _ _ (eq_of (h.pk a h2.1) (h.pk b h2.2) hn hn (by rw [geq h]; exact q _ h3))
theorem o_neG {τ : Type} [DecidableEq τ] {e : τ → D} {n : Nat} {p : τ → PyData} {okf : τ → Bool} (h : PDg e n p okf) (hn : n ≤ 64) (he : ∀ x y M k, eqG (e x) (e y) M k → eqD (e x) (e y) M k) : O2 β dNe e e D.bl fun a b rest => (eqR okf a b).bind fun t => rest (!t) := fun a b M k Q rest h1 q => by
  obtain ⟨h2, h3⟩ := ite_wp h1
  exact he _ _ _ _ (eq_of (h.pk a h2.1) (h.pk b h2.2) hn hn (by rw [geq h]; exact q _ h3))
def inR {τ : Type} [DecidableEq τ] (okf : τ → Bool) (a : τ) (l : List τ) : Res Bool := if okf a = true ∧ okL okf l = true then .ok (decide (a ∈ l)) else .no
theorem gany {τ : Type} [DecidableEq τ] {e : τ → D} {n : Nat} {p : τ → PyData} {okf : τ → Bool} (h : PDg e n p okf) (x : τ) (l : List τ) : ((l.map p).any fun z => PyData.eqv z (p x)) = decide (x ∈ l) := by
  rw [Bool.eq_iff_iff, List.any_map, List.any_eq_true]
  simp only [Function.comp, h.eqv, decide_eq_true_eq]
  exact ⟨fun ⟨y, h1, h2⟩ => h2 ▸ h1, fun h => ⟨x, h, rfl⟩⟩
theorem gin {τ : Type} [DecidableEq τ] {e : τ → D} {n : Nat} {p : τ → PyData} {okf : τ → Bool} (h : PDg e n p okf) (hn : n ≤ 63) {x : τ} {l : List τ} (h1 : okf x = true) (h2 : okL okf l = true) {M : Mem} {k : Bool → Prop} (hr : ∀ x, pyM M (e x) = py (e x)) (hk : k (decide (x ∈ l))) : inG (e x) (eL e l) M k := by
  unfold inG
  refine ⟨p x, l.map p, _, by rw [hr]; exact (h.pk x h1).py, (pk_lst (pgk_map h l h2)).py, .inl rfl, (h.pk x h1).sh (by omega), (pk_lst (pgk_map h l h2)).sh (by omega), ?_⟩
  rw [gany h]; exact hk
theorem o_inGg {τ : Type} [DecidableEq τ] {e : τ → D} {n : Nat} {p : τ → PyData} {okf : τ → Bool} (h : PDg e n p okf) (hn : n ≤ 63) (hr : ∀ M x, pyM M (e x) = py (e x)) (hi : ∀ x y M k, inG (e x) y M k → inD (e x) y M k) : O2 β dIn e (eL e) D.bl fun a l rest => (inR okf a l).bind rest := fun a b M k Q rest h1 q => by
  obtain ⟨h2, h3⟩ := ite_wp h1
  exact hi _ _ _ _ (gin h hn h2.1 h2.2 (hr M) (q _ h3))
theorem o_ninGg {τ : Type} [DecidableEq τ] {e : τ → D} {n : Nat} {p : τ → PyData} {okf : τ → Bool} (h : PDg e n p okf) (hn : n ≤ 63) (hr : ∀ M x, pyM M (e x) = py (e x)) (hi : ∀ x y M k, inG (e x) y M k → inD (e x) y M k) : O2 β dNin e (eL e) D.bl fun a l rest => (inR okf a l).bind fun t => rest (!t) := fun a b M k Q rest h1 q => by
  obtain ⟨h2, h3⟩ := ite_wp h1
  exact hi _ _ _ _ (gin h hn h2.1 h2.2 (hr M) (q _ h3))
theorem ginT {τ : Type} [DecidableEq τ] {e : τ → D} {n : Nat} {p : τ → PyData} {okf : τ → Bool} (h : PDg e n p okf) (hn : n ≤ 63) {x : τ} {l : List τ} (h1 : okf x = true) (h2 : okL okf l = true) {M : Mem} {k : Bool → Prop} (hr : ∀ x, pyM M (e x) = py (e x)) (hk : k (decide (x ∈ l))) : inG (e x) (eT e l) M k := by
  unfold inG
  refine ⟨p x, l.map p, _, by rw [hr]; exact (h.pk x h1).py, (pk_tup (pgk_map h l h2)).py, .inr rfl, (h.pk x h1).sh (by omega), (pk_tup (pgk_map h l h2)).sh (by omega), ?_⟩
  rw [gany h]; exact hk
theorem o_inGgT {τ : Type} [DecidableEq τ] {e : τ → D} {n : Nat} {p : τ → PyData} {okf : τ → Bool} (h : PDg e n p okf) (hn : n ≤ 63) (hr : ∀ M x, pyM M (e x) = py (e x)) (hi : ∀ x y M k, inG (e x) y M k → inD (e x) y M k) : O2 β dIn e (eT e) D.bl fun a l rest => (inR okf a l).bind rest := fun a b M k Q rest h1 q => by
  obtain ⟨h2, h3⟩ := ite_wp h1
  exact hi _ _ _ _ (ginT h hn h2.1 h2.2 (hr M) (q _ h3))
theorem o_ninGgT {τ : Type} [DecidableEq τ] {e : τ → D} {n : Nat} {p : τ → PyData} {okf : τ → Bool} (h : PDg e n p okf) (hn : n ≤ 63) (hr : ∀ M x, pyM M (e x) = py (e x)) (hi : ∀ x y M k, inG (e x) y M k → inD (e x) y M k) : O2 β dNin e (eT e) D.bl fun a l rest => (inR okf a l).bind fun t => rest (!t) := fun a b M k Q rest h1 q => by
  obtain ⟨h2, h3⟩ := ite_wp h1
  exact hi _ _ _ _ (ginT h hn h2.1 h2.2 (hr M) (q _ h3))
theorem oc_eqg {p : Addr} {τ : Type} {e : τ → D} [DecidableEq τ] {n : Nat} {q : τ → PyData} {okf : τ → Bool} (hp : PDg e n q okf) (hn : n ≤ 63) : ∀ (a : List τ) (t : List τ) N (k : D → Mem → Prop) (Q : β → Prop) (rest : Bool → Res β), ((eqR (okL okf) t a).bind rest).wp Q → (∀ x, (rest x).wp Q → k (.bl x) (mu N p (cL e t))) → dEq (.ref p) (eL e a) (mu N p (cL e t)) k := fun a t N k Q rest h g => by
  obtain ⟨h2, h3⟩ := ite_wp h
  refine eq_ref mu_same (pk_lst (pgk_map hp t h2.1)) (pk_lst (pgk_map hp a h2.2)) (by omega) (by omega) ?_
  have z := geq (pg_L hp) t a
  rw [z]; exact g _ h3
theorem oc_neg {p : Addr} {τ : Type} {e : τ → D} [DecidableEq τ] {n : Nat} {q : τ → PyData} {okf : τ → Bool} (hp : PDg e n q okf) (hn : n ≤ 63) : ∀ (a : List τ) (t : List τ) N (k : D → Mem → Prop) (Q : β → Prop) (rest : Bool → Res β), ((eqR (okL okf) t a).bind fun t => rest (!t)).wp Q → (∀ x, (rest x).wp Q → k (.bl x) (mu N p (cL e t))) → dNe (.ref p) (eL e a) (mu N p (cL e t)) k := fun a t N k Q rest h g => by
  obtain ⟨h2, h3⟩ := ite_wp h
  refine eq_ref mu_same (pk_lst (pgk_map hp t h2.1)) (pk_lst (pgk_map hp a h2.2)) (by omega) (by omega) ?_
  have z := geq (pg_L hp) t a
  rw [z]; exact g _ h3
theorem c_lenQ {T τ : Type} {p : Addr} {c : T → Cell} {cc : Str} {wf : WF} {d : D1} {e : τ → D} {f : T → (τ → Res β) → Res β} (hn : ∀ M k, d (.ref p) M k → dLenO cc wf d (.ref p) M k) (h : O1C β d p c e f) : O1C β (dLenO cc wf d) p c e f := fun t N k Q rest h1 q => hn _ _ (h t N k Q rest h1 q)
theorem oc_Q {T τ1 τ : Type} {p : Addr} {c : T → Cell} {e1 : τ1 → D} {e : τ → D} {d d' : D2} {f : T → τ1 → (τ → Res β) → Res β} (hn : ∀ y M k, d (.ref p) y M k → d' (.ref p) y M k) (h : ∀ (a : τ1) (t : T) N (k : D → Mem → Prop) (Q : β → Prop) (rest : τ → Res β), (f t a rest).wp Q → (∀ x, (rest x).wp Q → k (e x) (mu N p (c t))) → d (.ref p) (e1 a) (mu N p (c t)) k) : ∀ (a : τ1) (t : T) N (k : D → Mem → Prop) (Q : β → Prop) (rest : τ → Res β), (f t a rest).wp Q → (∀ x, (rest x).wp Q → k (e x) (mu N p (c t))) → d' (.ref p) (e1 a) (mu N p (c t)) k := fun a t N k Q rest h1 q => hn _ _ _ (h a t N k Q rest h1 q)
section
variable {S : Type} {μ : S → Mem} {ρ : St'} {s : S}
theorem tj_yes : TJ (β := β) μ ρ s wYes fun rest => rest true s := fun k E Q rest h q => q _ _ h
theorem ej_cell {i : Nat} {p : Addr} (h : ρ[i]? = some (some (.ref p))) : EJ (β := β) μ ρ s (wVar i) (fun _ : Unit => D.ref p) fun rest => rest () s := fun k E Q rest h1 h2 => by
  unfold wVar; rw [h]; exact h2 _ _ h1
theorem ej_nilas {τ : Type} {e e' : τ → D} {we : W} (h : EJ (β := β) μ ρ s we (eL e) fun rest => rest [] s) : EJ (β := β) μ ρ s we (eL e') fun rest => rest [] s := fun k E Q rest h1 q =>
  h k E Q (fun a s1 => if a.isEmpty then rest [] s1 else .no) h1 fun a s1 h2 => by
    cases a with
    | nil => exact q [] s1 h2
    | cons x l => cases h2
end
def rng3R (a b c : Int) : Res (List Int) := if c ≠ 0 ∧ c.natAbs < 1073741824 ∧ Builtin.Range.small a b c = true ∧ 0 ≤ Builtin.Range.rangeSize a b c then .ok (irngC a c (Builtin.Range.rangeSize a b c).toNat) else .no
theorem ij_r3 {S : Type} {μ : S → Mem} {ρ : St'} {s : S} {wa : WA} {C : (Int × Int × Int → S → Res β) → Res β} (h : AJ μ ρ s wa (fun p => [.int p.1, .int p.2.1, .int p.2.2]) C) : IJ μ ρ s (wiR3 wa) D.int fun rest => C fun p s1 => (rng3R p.1 p.2.1 p.2.2).bind fun l => rest l s1 := fun k E Q rest h1 q => h _ E Q _ h1 fun a s1 h2 => by
  obtain ⟨h3, h4⟩ := ite_wp h2
  exact rg3 ⟨h3.1, h3.2.1, h3.2.2.1, (Int.toNat_of_nonneg h3.2.2.2).symm⟩ (q _ _ h4)
/-! texts in order -/
open Classical in
noncomputable def sortSL (l : List Str) : List Str := if h : ∃ l' : List Str, l'.Perm l ∧ sortedS l' = true ∧ ∀ l'' : List Str, l''.Perm l → sortedS l'' = true → l'' = l' then h.choose else l
noncomputable def sortSR (l : List Str) : Res (List Str) := open Classical in if l.length < 64 ∧ ∃ l' : List Str, l'.Perm l ∧ sortedS l' = true ∧ ∀ l'' : List Str, l''.Perm l → sortedS l'' = true → l'' = l' then .ok (sortSL l) else .no
open Classical in
theorem o_sortedS : O1 β (dSortedS false) (eL D.str) (eL D.str) fun l rest => (sortSR l).bind rest := fun a M k Q rest h q => by
  obtain ⟨h1, h2⟩ := ite_wp h
  refine strs_of (sorts_of h1.1 fun l' p s => ?_)
  have e : l' = sortSL a := by
    unfold sortSL
    rw [dif_pos h1.2]
    exact h1.2.choose_spec.2.2 l' p s
  rw [e]; exact q _ h2
open Classical in
theorem sortSR_of {l m : List Str} (hl : l.length < 64) (hm : m.Perm l) (hs : sortedS m = true) (hu : ∀ l'' : List Str, l''.Perm l → sortedS l'' = true → l'' = m) : sortSR l = .ok m := by
  have hx : ∃ l' : List Str, l'.Perm l ∧ sortedS l' = true ∧ ∀ l'' : List Str, l''.Perm l → sortedS l'' = true → l'' = l' := ⟨m, hm, hs, hu⟩
  unfold sortSR
  rw [if_pos ⟨hl, hx⟩]
  unfold sortSL
  rw [dif_pos hx]
  rw [hu _ hx.choose_spec.1 hx.choose_spec.2.1]
theorem o_join : ∀ (a : Str) (l : List Str) M (k : D → Mem → Prop) (Q : β → Prop) (rest : Str → Res β), ((joinR a l).bind rest).wp Q → (∀ c, (rest c).wp Q → k (.str c) M) → dJoin (.str a) [eL D.str l] M k := fun a l M k Q rest h q => by
  obtain ⟨h1, h2⟩ := ite_wp h
  exact strs_of (join_of h1 (q _ h2))
end
end Ty

set_option Elab.async false
set_option linter.all false
set_option maxRecDepth 100000
set_option maxHeartbeats 4000000
/-! Tuples of whole numbers whose methods are called. -/
namespace Ty
open PySem PySem.Spec PyProof.Rows L2 Rl RZ RT Px
def idxR (l : List Int) (i : Int) : Res Int := if i ∈ l then .ok (l.idxOf i : Nat) else .no
def lrR (a b : Int) : Res (List Int) := if 0 ≤ a ∧ b ≤ 16777216 ∧ a ≤ 16777216 ∧ 0 ≤ b then .ok (rgL a b) else .no
section
variable {β S : Type} {μ : S → Mem} {ρ : St'} {s : S}
theorem bj_rho {Φ : Ps → β → Prop} {ρ2 : St'} {t : WS} {m : Res β} (e : ρ = ρ2) (h : BJ μ ρ2 s t Φ m) : BJ μ ρ s t Φ m := by rw [e]; exact h
theorem o_tupX : O1 β dTupX (eL D.int) D.tux fun l rest => rest l := fun a M k Q rest h q => ints_of (q _ h)
theorem o_maxX : OB β dMaxT (fun l : List Int => [D.tux l]) D.int fun l rest => (maxR l).bind rest := fun a M k Q rest h q => by
  have h : (Res.bind (if a = [] then Res.no else .ok (maxL a)) rest).wp Q := h
  by_cases c : a = []
  · rw [if_pos c] at h; cases h
  · rw [if_neg c] at h; exact is_maxL c (q _ h)
theorem o_minX : OB β dMinT (fun l : List Int => [D.tux l]) D.int fun l rest => (minR l).bind rest := fun a M k Q rest h q => by
  have h : (Res.bind (if a = [] then Res.no else .ok (minL a)) rest).wp Q := h
  by_cases c : a = []
  · rw [if_pos c] at h; cases h
  · rw [if_neg c] at h; exact is_minL c (q _ h)
theorem ej_idx {wo : W} {wa : WA} {Ca : (List Int → S → Res β) → Res β} {Cb : List Int → S → (Int → S → Res β) → Res β} (ha : EJ μ ρ s wo D.tux Ca) (hb : ∀ a s1, AJ μ ρ s1 wa (fun x => [D.int x]) (Cb a s1)) :
    EJ μ ρ s (wIdx wo wa) D.int fun rest => Ca fun a s1 => Cb a s1 fun b s2 => (idxR a b).bind fun c => rest c s2 := fun k E Q rest h q =>
  ha _ E Q _ h fun a s1 h1 => hb a s1 _ E Q _ h1 fun b s2 h2 => by
    have h2 : (Res.bind (if b ∈ a then Res.ok ((a.idxOf b : Nat) : Int) else Res.no) fun c => rest c s2).wp Q := h2
    by_cases c : b ∈ a
    · rw [if_pos c] at h2; exact hasI.of c (q _ _ h2)
    · rw [if_neg c] at h2; cases h2
theorem ej_lr2 {wa wb : W} {Ca : (Int → S → Res β) → Res β} {Cb : Int → S → (Int → S → Res β) → Res β} (ha : EJ μ ρ s wa D.int Ca) (hb : ∀ a s1, EJ μ ρ s1 wb D.int (Cb a s1)) :
    EJ μ ρ s (wLR2 wa wb) (eL D.int) fun rest => Ca fun a s1 => Cb a s1 fun b s2 => (lrR a b).bind fun c => rest c s2 := fun k E Q rest h q =>
  ha _ E Q _ h fun a s1 h1 => hb a s1 _ E Q _ h1 fun b s2 h2 => by
    have h2 : (Res.bind (if 0 ≤ a ∧ b ≤ 16777216 ∧ a ≤ 16777216 ∧ 0 ≤ b then Res.ok (rgL a b) else Res.no) fun c => rest c s2).wp Q := h2
    by_cases c : 0 ≤ a ∧ b ≤ 16777216 ∧ a ≤ 16777216 ∧ 0 ≤ b
    · rw [if_pos c] at h2; exact rgG.of (RgOk.of_le c.1 c.2.1 c.2.2.1 c.2.2.2) (q _ _ h2)
    · rw [if_neg c] at h2; cases h2
theorem ej_lr1 {wb : W} {Cb : (Int → S → Res β) → Res β} (hb : EJ μ ρ s wb D.int Cb) :
    EJ μ ρ s (wLR1 wb) (eL D.int) fun rest => Cb fun b s2 => (lrR 0 b).bind fun c => rest c s2 := fun k E Q rest h q =>
  hb _ E Q _ h fun b s2 h2 => by
    have h2 : (Res.bind (if 0 ≤ (0 : Int) ∧ b ≤ 16777216 ∧ (0 : Int) ≤ 16777216 ∧ 0 ≤ b then Res.ok (rgL 0 b) else Res.no) fun c => rest c s2).wp Q := h2
    by_cases c : 0 ≤ (0 : Int) ∧ b ≤ 16777216 ∧ (0 : Int) ≤ 16777216 ∧ 0 ≤ b
    · rw [if_pos c] at h2; exact rgG.of (RgOk.of_le c.1 c.2.1 c.2.2.1 c.2.2.2) (q _ _ h2)
    · rw [if_neg c] at h2; cases h2
end
end Ty

set_option Elab.async false
set_option linter.all false
set_option maxRecDepth 100000
set_option maxHeartbeats 4000000
/-! A place in a list of texts; {..}.get(x, y). -/
namespace Ty
open PySem PySem.Spec PyProof.Rows L2 Rl RZ RT Px
def idxSR (l : List Str) (i : Str) : Res Int := if i ∈ l then .ok (l.idxOf i : Nat) else .no
def dgO (o : Option V) (y : Str) : Res Str := match o with
  | some (.str t) => .ok t
  | none => .ok y
  | _ => .no
def dgR (l : List (Str × Str)) (s y : Str) : Res Str := dgO (dgV l s) y
def repTR {τ : Type} (a : List τ) (j : Int) : Res (List τ) := if a.length ≠ 0 ∧ (1 ≤ j ∧ j ≤ 1000) ∧ a.length ≤ 1000 then .ok (List.replicate j.toNat a).flatten else .no
def szR {τ : Type} (a : List τ) : Res (List τ) := if a.length ≤ 16777216 then .ok a else .no
section
variable {β S : Type} {μ : S → Mem} {ρ : St'} {s : S}
theorem ej_idxS {wo : W} {wa : WA} {Ca : (List Str → S → Res β) → Res β} {Cb : List Str → S → (Str → S → Res β) → Res β} (ha : EJ μ ρ s wo (eL D.str) Ca) (hb : ∀ a s1, AJ μ ρ s1 wa (fun x => [D.str x]) (Cb a s1)) :
    EJ μ ρ s (wBL dIdxS wo wa) D.int fun rest => Ca fun a s1 => Cb a s1 fun b s2 => (idxSR a b).bind fun c => rest c s2 := fun k E Q rest h q =>
  ha _ E Q _ h fun a s1 h1 => hb a s1 _ E Q _ h1 fun b s2 h2 => by
    have h2 : (Res.bind (if b ∈ a then Res.ok ((a.idxOf b : Nat) : Int) else Res.no) fun c => rest c s2).wp Q := h2
    by_cases c : b ∈ a
    · rw [if_pos c] at h2; exact strs_of (hasS.of c (q _ _ h2))
    · rw [if_neg c] at h2; cases h2
theorem ej_dg {l : List (Str × Str)} {wx wy : W} {Ca : (Str → S → Res β) → Res β} {Cb : Str → S → (Str → S → Res β) → Res β} (ha : EJ μ ρ s wx D.str Ca) (hb : ∀ a s1, EJ μ ρ s1 wy D.str (Cb a s1)) :
    EJ μ ρ s (wDG l wx wy) D.str fun rest => Ca fun a s1 => Cb a s1 fun b s2 => (dgR l a b).bind fun c => rest c s2 := fun k E Q rest h q =>
  ha _ E Q _ h fun a s1 h1 => hb a s1 _ E Q _ h1 fun b s2 h2 => by
    have h2 : (Res.bind (dgO (dgV l a) b) fun c => rest c s2).wp Q := h2
    show dgD (dgV l a) (D.str b) fun z => k z (μ s2)
    revert h2
    cases dgV l a with
    | none => exact fun h2 => q _ _ h2
    | some w =>
      cases w with
      | str t => exact fun h2 => q _ _ h2
      | _ => exact fun h2 => h2.elim
theorem o_repT {τ : Type} {e : τ → D} : O2 β (dMulT false) (eT e) D.int (eT e) fun a b rest => (repTR a b).bind rest := fun a b M k Q rest h q => by
  obtain ⟨h1, h2⟩ := ite_wp h
  have z := q _ h2
  exact rep_t (by intro c; exact h1.1 (by rw [← List.length_map (f := e), c]; rfl)) h1.2.1 (by rw [List.length_map]; exact h1.2.2) (by rw [map_rep]; exact z)
theorem ij_enumTL {τ : Type} {e : τ → D} {wa : WA} {C : (List τ → S → Res β) → Res β} (h : AJ μ ρ s wa (fun l => [eL e l]) C) : IJ μ ρ s (wiEnumT wa) (eT2 D.int e) fun rest => C fun l s1 => rest (enumT 0 l) s1 := fun k E Q rest h1 q => h _ E Q _ h1 fun a s1 h2 => by
  show k ⟨enumD 0 (a.map e), []⟩ _
  rw [enumD_map]; exact q _ _ h2
theorem ij_enumTT {τ : Type} {e : τ → D} {wa : WA} {C : (List τ → S → Res β) → Res β} (h : AJ μ ρ s wa (fun l => [eT e l]) C) : IJ μ ρ s (wiEnumT wa) (eT2 D.int e) fun rest => C fun l s1 => rest (enumT 0 l) s1 := fun k E Q rest h1 q => h _ E Q _ h1 fun a s1 h2 => by
  show k ⟨enumD 0 (a.map e), []⟩ _
  rw [enumD_map]; exact q _ _ h2
theorem aj_lstarL {τ : Type} {e : τ → D} {we : W} {wr : WA} {Ca : (List τ → S → Res β) → Res β} {Cb : List τ → S → (List τ → S → Res β) → Res β} (ha : EJ μ ρ s we (eL e) Ca) (hb : ∀ a s1, AJ μ ρ s1 wr (List.map e) (Cb a s1)) :
    AJ μ ρ s (waStar we wr) (List.map e) fun rest => Ca fun a s1 => Cb a s1 fun b s2 => rest (a ++ b) s2 := fun k E Q rest h1 q => ha _ E Q _ h1 fun a s1 h2 => hb a s1 _ E Q _ h2 fun b s2 h3 => by
  have z := q (a ++ b) _ h3
  rw [List.map_append] at z
  exact z
theorem aj_lstarT {τ : Type} {e : τ → D} {we : W} {wr : WA} {Ca : (List τ → S → Res β) → Res β} {Cb : List τ → S → (List τ → S → Res β) → Res β} (ha : EJ μ ρ s we (eT e) Ca) (hb : ∀ a s1, AJ μ ρ s1 wr (List.map e) (Cb a s1)) :
    AJ μ ρ s (waStar we wr) (List.map e) fun rest => Ca fun a s1 => Cb a s1 fun b s2 => rest (a ++ b) s2 := fun k E Q rest h1 q => ha _ E Q _ h1 fun a s1 h2 => hb a s1 _ E Q _ h2 fun b s2 h3 => by
  have z := q (a ++ b) _ h3
  rw [List.map_append] at z
  exact z
theorem ej_lstS {τ : Type} {e : τ → D} {wa : WA} {C : (List τ → S → Res β) → Res β} (h : AJ μ ρ s wa (List.map e) C) : EJ μ ρ s (wLst false wa) (eL e) fun rest => C fun a s1 => (szR a).bind fun l => rest l s1 := fun k E Q rest h1 q =>
  h _ E Q _ h1 fun a s1 h2 => by
    obtain ⟨g1, g2⟩ := ite_wp h2
    exact sz (by rw [List.length_map]; exact g1) (q a s1 g2)
end
end Ty

set_option Elab.async false
set_option linter.all false
set_option maxRecDepth 100000
set_option maxHeartbeats 4000000
/-! Working with typed code. -/
namespace Ty
open PySem PySem.Spec PyProof.Rows L2 Rl RZ RT Px
theorem wp_iff {α : Type} {m : Res α} {Q : α → Prop} : m.wp Q ↔ ∃ a, m = .ok a ∧ Q a := ⟨fun h => h.get, fun ⟨a, e, h⟩ => by rw [e]; exact h⟩
theorem ok_of_wp {α : Type} {m : Res α} {a : α} (h : m.wp fun r => r = a) : m = .ok a := by
  obtain ⟨b, e, q⟩ := h.get
  rw [e, q]
theorem bind_eq {α β : Type} {m : Res α} {a : α} {f : α → Res β} (e : m = .ok a) : m.bind f = f a := by rw [e]; rfl
theorem wp_bnd {α β : Type} {m : Res α} {f : α → Res β} {Q : β → Prop} {R : α → Prop} (h : m.wp R) (g : ∀ a, R a → (f a).wp Q) : (m.bind f).wp Q := by
  rw [wp_bind]; exact h.mono g
theorem wp_bok {α β : Type} {m : Res α} {a : α} {f : α → Res β} {Q : β → Prop} (e : m = .ok a) (g : (f a).wp Q) : (m.bind f).wp Q := by
  rw [e]; exact g
theorem wp_ite {α : Type} {c : Bool} {a b : Res α} {Q : α → Prop} (h1 : c = true → a.wp Q) (h2 : c = false → b.wp Q) : (if c = true then a else b).wp Q := by
  cases c with
  | true => exact h1 rfl
  | false => exact h2 rfl
/-! ### what may fail -/
theorem rngR_ok {a b : Int} (h : (-(2 ^ 62) ≤ a ∧ a < 2 ^ 62) ∧ (-(2 ^ 62) ≤ b ∧ b < 2 ^ 62)) : rngR a b = .ok (irng a (b - a).toNat) := if_pos h
theorem irng_len' (a : Int) (n : Nat) : (irng a n).length = n := by simp [irng]
theorem irng_get {a : Int} {n i : Nat} (h : i < n) : (irng a n)[i]? = some (a + i) := by
  unfold irng; simp [h]
theorem mem_irng {a x : Int} {n : Nat} : x ∈ irng a n ↔ a ≤ x ∧ x < a + n := by
  unfold irng
  rw [List.mem_map]
  constructor
  · rintro ⟨i, hi, rfl⟩
    have := List.mem_range.mp hi
    omega
  · intro h
    exact ⟨(x - a).toNat, List.mem_range.mpr (by omega), by omega⟩
theorem lcM_ok {τ υ : Type} {f : τ → υ} {xs : List τ} (h : xs.length ≤ 16777216) : lcM f xs = .ok (xs.map f) := if_pos h
theorem lcF_ok {τ υ : Type} {p : τ → Bool} {f : τ → υ} {xs : List τ} (h : xs.length ≤ 16777216) : lcF p f xs = .ok ((xs.filter p).map f) := if_pos (Nat.le_trans (List.length_filter_le ..) h)
theorem lcR_acc {τ υ : Type} {p : τ → Res Bool} {g : τ → Res υ} (b : τ → Bool) (f : τ → υ) : ∀ (xs : List τ) (acc : List υ), acc.length + xs.length ≤ 16777216 → (∀ x ∈ xs, p x = .ok (b x)) → (∀ x ∈ xs, b x = true → g x = .ok (f x)) → lcR p g xs acc = .ok (acc ++ (xs.filter b).map f)
  | [], acc, _, _, _ => by simp [lcR]
  | x :: xs, acc, h, hp, hg => by
    rw [List.length_cons] at h
    unfold lcR
    rw [hp x (List.mem_cons_self ..), bind_ok]
    by_cases c : b x = true
    · rw [c, if_pos rfl, hg x (List.mem_cons_self ..) c, bind_ok, if_pos (by omega), lcR_acc b f xs (acc ++ [f x]) (by rw [List.length_append, List.length_singleton]; omega) (fun y hy => hp y (List.mem_cons_of_mem _ hy)) fun y hy => hg y (List.mem_cons_of_mem _ hy), List.filter_cons_of_pos c, List.map_cons, List.append_assoc]; rfl
    · rw [if_neg c, lcR_acc b f xs acc (by omega) (fun y hy => hp y (List.mem_cons_of_mem _ hy)) fun y hy => hg y (List.mem_cons_of_mem _ hy), List.filter_cons_of_neg c]
theorem lcR_ok {τ υ : Type} {p : τ → Res Bool} {g : τ → Res υ} (b : τ → Bool) (f : τ → υ) {xs : List τ} (h : xs.length ≤ 16777216) (hp : ∀ x ∈ xs, p x = .ok (b x)) (hg : ∀ x ∈ xs, b x = true → g x = .ok (f x)) : lcR p g xs [] = .ok ((xs.filter b).map f) := lcR_acc b f xs [] (by simpa using h) hp hg
theorem lcR_map {τ υ : Type} {g : τ → Res υ} (f : τ → υ) {xs : List τ} (h : xs.length ≤ 16777216) (hg : ∀ x ∈ xs, g x = .ok (f x)) : lcR (fun _ => .ok true) g xs [] = .ok (xs.map f) := by
  rw [lcR_ok (fun _ => true) f h (fun _ _ => rfl) fun x hx _ => hg x hx, List.filter_eq_self.mpr fun _ _ => rfl]
/-- nothing passes -/
theorem lcR_nil {τ υ : Type} {p : τ → Res Bool} {g : τ → Res υ} {xs : List τ} (hp : ∀ x ∈ xs, p x = .ok false) : lcR p g xs [] = .ok [] := by
  induction xs with
  | nil => rfl
  | cons x xs ih =>
    unfold lcR
    rw [hp x (List.mem_cons_self ..), bind_ok, if_neg Bool.false_ne_true]
    exact ih fun y hy => hp y (List.mem_cons_of_mem _ hy)
/-- a comprehension along which the state goes -/
theorem lcS_wp {τ υ S : Type} {step : τ → S → Res (Option υ × S)} {Q : List υ × S → Prop} (inv : Nat → List υ → S → Prop) : ∀ (xs : List τ) (i : Nat) (acc : List υ) (s : S), acc.length ≤ i → i + xs.length ≤ 16777216 → inv i acc s →
    (∀ j x acc s, xs[j]? = some x → inv (i + j) acc s → (step x s).wp fun r => match r.1 with
      | none => inv (i + j + 1) acc r.2
      | some y => inv (i + j + 1) (acc ++ [y]) r.2) → (∀ acc s, inv (i + xs.length) acc s → Q (acc, s)) → (lcS step xs acc s).wp Q
  | [], i, acc, s, _, _, h0, _, hq => hq acc s h0
  | x :: xs, i, acc, s, ha, hl, h0, hs, hq => by
    rw [List.length_cons] at hl hq
    unfold lcS
    refine wp_bnd (hs 0 x acc s rfl h0) fun r hr => ?_
    have hs' : ∀ j y acc s, xs[j]? = some y → inv (i + 1 + j) acc s → (step y s).wp fun r => match r.1 with
      | none => inv (i + 1 + j + 1) acc r.2
      | some y => inv (i + 1 + j + 1) (acc ++ [y]) r.2 := fun j y acc s hy hi => by
      have z := hs (j + 1) y acc s hy (by rw [show i + (j + 1) = i + 1 + j by omega]; exact hi)
      rw [show i + (j + 1) + 1 = i + 1 + j + 1 by omega] at z
      exact z
    obtain ⟨o, s'⟩ := r
    cases o with
    | none => exact lcS_wp inv xs (i + 1) acc s' (by omega) (by omega) hr hs' fun acc s h => hq acc s (by rw [show i + (xs.length + 1) = i + 1 + xs.length by omega]; exact h)
    | some y =>
      show (if acc.length + 1 ≤ 16777216 then lcS step xs (acc ++ [y]) s' else Res.no).wp Q
      rw [if_pos (by omega)]
      exact lcS_wp inv xs (i + 1) (acc ++ [y]) s' (by rw [List.length_append, List.length_singleton]; omega) (by omega) hr hs' fun acc s h => hq acc s (by rw [show i + (xs.length + 1) = i + 1 + xs.length by omega]; exact h)
theorem atI_ok {τ : Type} {l : List τ} {i : Int} (h0 : 0 ≤ i) (h : i < l.length) : atI l i = some (l[i.toNat]'(by omega)) := by
  unfold atI ixN
  rw [if_pos h0, if_pos h]
  show l[i.toNat]? = _
  rw [List.getElem?_eq_getElem]
theorem ixR_ok {τ : Type} {l : List τ} {i : Int} (h0 : 0 ≤ i) (h : i < l.length) : ixR l i = .ok (l[i.toNat]'(by omega)) := by
  unfold ixR; rw [atI_ok h0 h]
theorem ixR_get {τ : Type} {l : List τ} {i : Int} {x : τ} (h0 : 0 ≤ i) (h : l[i.toNat]? = some x) : ixR l i = .ok x := by
  obtain ⟨h1, h2⟩ := List.getElem?_eq_some_iff.mp h
  rw [ixR_ok h0 (by omega), h2]
theorem ixR_app {τ : Type} {l : List τ} {x : τ} : ixR (l ++ [x]) (-1) = .ok x := by
  unfold ixR atI ixN
  rw [if_neg (by omega), List.length_append, List.length_singleton, if_pos (by omega)]
  show (match (l ++ [x])[((-1 : Int) + ((l.length + 1 : Nat) : Int)).toNat]? with
    | some a => Res.ok a
    | none => .no) = _
  rw [show ((-1 : Int) + ((l.length + 1 : Nat) : Int)).toNat = l.length by omega]
  simp
theorem appR_ok {τ : Type} {l : List τ} {a : τ} (h : l.length + 1 ≤ 16777216) : appR l a = .ok (l ++ [a]) := if_pos h
theorem setR_ok {τ : Type} {l : List τ} {i : Int} {a : τ} (h0 : 0 ≤ i) (h : i < l.length) : setR l i a = .ok (l.set i.toNat a) := by
  unfold setR ixN
  rw [if_pos h0, if_pos h]
theorem addL_ok {τ : Type} {a b : List τ} (h : a.length + b.length ≤ 16777216) : addL a b = .ok (a ++ b) := if_pos h
theorem log2_lt {a : Int} {n : Nat} (hn : 0 < n) (h : a.natAbs < 2 ^ n) : a.natAbs.log2 < n := big_log hn h
theorem mulR_ok {a b : Int} (n m : Nat) (hn : 0 < n) (hm : 0 < m) (ha : a.natAbs < 2 ^ n) (hb : b.natAbs < 2 ^ m) (h : n + m ≤ 1000000) : mulR a b = .ok (a * b) := if_pos (.inr (by
  have := log2_lt hn ha
  have := log2_lt hm hb
  omega))
theorem mulR_l {a b : Int} (h : a.natAbs < 2 ^ 64) : mulR a b = .ok (a * b) := if_pos (.inl (.inl h))
theorem mulR_r {a b : Int} (h : b.natAbs < 2 ^ 64) : mulR a b = .ok (a * b) := if_pos (.inl (.inr h))
theorem fdR_ok {a b : Int} (h0 : 0 < b) (h : b < 2 ^ 63) : fdR a b = .ok (a / b) := if_pos ⟨h0, by
  have := log2_lt (a := b) (n := 63) (by decide) (by omega)
  omega⟩
theorem mdR_ok {a b : Int} (h0 : 0 < b) : mdR a b = .ok (a % b) := if_pos h0
theorem pwR_ok {a b : Int} (h : 0 ≤ b ∧ b ≤ 1000000 ∧ a.natAbs < 2 ^ 64) : pwR a b = .ok (a ^ b.toNat) := if_pos h
theorem repL_ok {τ : Type} {a : List τ} {j : Int} (h : (-(2 ^ 63) ≤ j ∧ j < 2 ^ 63) ∧ a.length * j.toNat ≤ 16777216) : repL a j = .ok (List.replicate j.toNat a).flatten := if_pos h
theorem maxR_ok {l : List Int} (h : l ≠ []) : maxR l = .ok (maxL l) := if_neg h
theorem minR_ok {l : List Int} (h : l ≠ []) : minR l = .ok (minL l) := if_neg h
theorem sortR_ok {l : List Int} (h : l.length < 64) : sortR l = .ok (sortL l) := if_pos h
theorem eqR_ok {τ : Type} [DecidableEq τ] {okf : τ → Bool} {a b : τ} (ha : okf a = true) (hb : okf b = true) : eqR okf a b = .ok (decide (a = b)) := if_pos ⟨ha, hb⟩
theorem inR_ok {τ : Type} [DecidableEq τ] {okf : τ → Bool} {a : τ} {l : List τ} (ha : okf a = true) (hb : okL okf l = true) : inR okf a l = .ok (decide (a ∈ l)) := if_pos ⟨ha, hb⟩
/-! ### loops -/
section
variable {σ S τ β : Type} {step : σ → S → τ → Res (Flow σ S β)} {rest : σ → S → Res β} {Q : β → Prop}
theorem forR_wp (inv : Nat → σ → S → Prop) : ∀ (xs : List τ) (i : Nat) (v : σ) (s : S), inv i v s →
    (∀ j x v s, xs[j]? = some x → inv (i + j) v s → (step v s x).wp fun r => match r with
      | .nx v s => inv (i + j + 1) v s
      | .bk v s => (rest v s).wp Q
      | .rt b => Q b) → (∀ v s, inv (i + xs.length) v s → (rest v s).wp Q) → (forR step rest xs v s).wp Q
  | [], i, v, s, h0, _, hq => hq v s h0
  | x :: xs, i, v, s, h0, hs, hq => by
    unfold forR
    refine wp_bnd (hs 0 x v s rfl h0) fun r hr => ?_
    cases r with
    | nx v' s' =>
      refine forR_wp inv xs (i + 1) v' s' hr (fun j y v s hy hi => ?_) fun v s h => hq v s (by rw [List.length_cons, show i + (xs.length + 1) = i + 1 + xs.length by omega]; exact h)
      have z := hs (j + 1) y v s hy (by rw [show i + (j + 1) = i + 1 + j by omega]; exact hi)
      rw [show i + (j + 1) + 1 = i + 1 + j + 1 by omega] at z
      exact z
    | bk v' s' => exact hr
    | rt b => exact hr
/-- every turn goes on; the state is told by the items taken -/
theorem forR_to (f : List τ → σ × S) {xs : List τ} (hs : ∀ pre x post, xs = pre ++ x :: post → step (f pre).1 (f pre).2 x = .ok (.nx (f (pre ++ [x])).1 (f (pre ++ [x])).2)) : forR step rest xs (f []).1 (f []).2 = rest (f xs).1 (f xs).2 := by
  have key : ∀ (ys pre : List τ), xs = pre ++ ys → forR step rest ys (f pre).1 (f pre).2 = rest (f xs).1 (f xs).2 := fun ys => by
    induction ys with
    | nil => intro pre h; rw [h, List.append_nil]; rfl
    | cons y ys ih =>
      intro pre h
      unfold forR
      rw [hs pre y ys h, bind_ok]
      exact ih (pre ++ [y]) (by rw [h, List.append_assoc]; rfl)
  exact key xs [] rfl
/-- no turn says anything -/
theorem forR_all {xs : List τ} {v : σ} {s : S} (hs : ∀ x ∈ xs, step v s x = .ok (.nx v s)) : forR step rest xs v s = rest v s := by
  induction xs with
  | nil => rfl
  | cons x xs ih =>
    unfold forR
    rw [hs x (List.mem_cons_self ..), bind_ok]
    exact ih fun y hy => hs y (List.mem_cons_of_mem _ hy)
end
/-! ### the drawing of numbers -/
abbrev TapT := List Int × Int × Int
/-- as many draws so far, at most -/
structure TapOk (b : Int) (t : TapT) : Prop where
  len : t.1.length ≤ 60
  lo : 0 ≤ t.2.1
  hi : t.2.1 ≤ b
theorem TapOk.b0 {b : Int} {t : TapT} (h : TapOk b t) : 0 ≤ b := Int.le_trans h.lo h.hi
theorem TapOk.mono {b c : Int} {t : TapT} (h : TapOk b t) (hc : b ≤ c) : TapOk c t := ⟨h.len, h.lo, Int.le_trans h.hi hc⟩
theorem pw_bound {m a c1 c2 c3 : Int} (h0 : 0 ≤ m) (h1 : m < 2147483648) (h2 : 0 ≤ a) (h3 : a ≤ 1048576) (k1 : 0 ≤ c1 ∧ c1 ≤ 1000000) (k2 : 0 ≤ c2 ∧ c2 ≤ 1000000) (k3 : 0 ≤ c3 ∧ c3 ≤ 1000000) : (m * (2 * a + c1) + c2 * a * a + c3).natAbs < 2 ^ 64 := by
  have e1 : m * (2 * a + c1) ≤ 2147483648 * (2 * 1048576 + 1000000) := Int.mul_le_mul (by omega) (by omega) (by omega) (by omega)
  have e2 : 0 ≤ m * (2 * a + c1) := Int.mul_nonneg h0 (by omega)
  have e5 : 0 ≤ c2 * a := Int.mul_nonneg k2.1 h2
  have e6 : c2 * a ≤ 1000000 * 1048576 := Int.mul_le_mul k2.2 h3 h2 (by omega)
  have e3 : c2 * a * a ≤ (1000000 * 1048576) * 1048576 := Int.mul_le_mul e6 h3 h2 (by omega)
  have e4 : 0 ≤ c2 * a * a := Int.mul_nonneg e5 h2
  omega
theorem cut60 (l : List Int) (n : Int) (hn : 0 ≤ n) : (Px.cutD l none (some n)).length ≤ n.toNat := by
  unfold Px.cutD
  rw [List.length_take]
  have h : HT.sIx l.length l.length (some n) ≤ n.toNat := by
    unfold HT.sIx
    simp only []
    rw [if_neg (by omega)]
    exact Nat.min_le_left _ _
  omega
end Ty

set_option Elab.async false
set_option linter.all false
set_option maxRecDepth 100000
set_option maxHeartbeats 4000000
namespace K10
open PySem PySem.Spec PyProof.Rows L2 Rl RZ RT
def t_Row_eq (K : PySem.W.Frag) (w : World) : TS :=
  (tRet (tAndT K (tCB (qIsi K) (tCons (tVar 1) (tCons (tC (.ref (He.ga K "Row"))) tNil))) (tOp (qEq K) (tFld K (tVar 0) "gains") (tFld K (tVar 1) "gains"))))
abbrev N_Row_eq : List Str := ["self", "other"]
def sp_Row_eq (K : PySem.W.Frag) (w : World) : Sp := fun vs H Q _ => vs.length = 2 ∧ t_Row_eq K w { nx := fun _ H' => Q .non H', rt := Q } (start N_Row_eq vs) H
def t_word_of (K : PySem.W.Frag) (w : World) : TS :=
  (tSeq (tIfS (tTest (tOp qGt (tCB (qMnT K) (tCons (tVar 0) tNil)) (tC (.int 0)))) (tRet (tC (.str "gains"))) tNext)
  (tSeq (tIfS (tTest (tOp (qLt K) (tCB (qMxT K) (tCons (tVar 0) tNil)) (tC (.int 0)))) (tRet (tC (.str "loses"))) tNext)
  (tRet (tIf (tAnd (tTest (tOp (qEq K) (tCB (qMnT K) (tCons (tVar 0) tNil)) (tC (.int 0)))) (tTest (tOp (qEq K) (tCB (qMxT K) (tCons (tVar 0) tNil)) (tC (.int 0))))) (tC (.str "flat")) (tC (.str "mixed"))))))
abbrev N_word_of : List Str := ["told"]
def sp_word_of (K : PySem.W.Frag) (w : World) : Sp := fun vs H Q _ => vs.length = 1 ∧ t_word_of K w { nx := fun _ H' => Q .non H', rt := Q } (start N_word_of vs) H
def t_sums_in (K : PySem.W.Frag) (w : World) : TS :=
  (tRet (tCB (qTup K) (tCons (tLc (iZipA K (tCons (tFld K (tVar 0) "heights") (tCons (tSl (qSl K) (tFld K (tVar 0) "heights") (tPart (tVar 1)) tNoPart) tNil))) (gTup K 2 (gCons (gName 2) (gCons (gName 3) gNil))) tYes (tOp qSub (tVar 3) (tVar 2)) [2, 3]) tNil)))
abbrev N_sums_in : List Str := ["row", "length", "ahead", "behind"]
def sp_sums_in (K : PySem.W.Frag) (w : World) : Sp := fun vs H Q _ => vs.length = 2 ∧ t_sums_in K w { nx := fun _ H' => Q .non H', rt := Q } (start N_sums_in vs) H
def t_need_row (K : PySem.W.Frag) (w : World) : TS :=
  (tIfS (tNot (tTru K (tCB (qIsi K) (tCons (tVar 0) (tCons (tC (.ref (He.ga K "Row"))) tNil))))) tNever tNext)
abbrev N_need_row : List Str := ["value", "part"]
def sp_need_row (K : PySem.W.Frag) (w : World) : Sp := fun vs H Q _ => vs.length = 2 ∧ t_need_row K w { nx := fun _ H' => Q .non H', rt := Q } (start N_need_row vs) H
def t_table_words (K : PySem.W.Frag) (w : World) : TS :=
  (tSeq (tDrop (tFn 2 0 (sp_need_row K w) (fun vs _ => vs) E0 (tcP (tCons (tVar 0) (tCons (tC (.str "row")) tNil)))))
  (tRet (tCB (qTup K) (tCons (tLc (iRng2 (tCons (tC (.int 1)) (tCons (tOp (qAdd K) (tFld K (tVar 0) "days") (tC (.int 1))) tNil))) (gName 1) tYes (tFn 1 0 (sp_word_of K w) (fun vs _ => vs) E0 (tcP (tCons (tFn 2 0 (sp_sums_in K w) (fun vs _ => vs) E0 (tcP (tCons (tVar 0) (tCons (tVar 1) tNil)))) tNil))) [1]) tNil))))
abbrev N_table_words : List Str := ["row", "length"]
def sp_table_words (K : PySem.W.Frag) (w : World) : Sp := fun vs H Q _ => vs.length = 1 ∧ t_table_words K w { nx := fun _ H' => Q .non H', rt := Q } (start N_table_words vs) H
def t_is_integer (K : PySem.W.Frag) (w : World) : TS :=
  (tRet (tAndT K (tCB (qIsi K) (tCons (tVar 0) (tCons (tC (.ty "int")) tNil))) (tNotT K (tCB (qIsi K) (tCons (tVar 0) (tCons (tC (.ty "bool")) tNil))))))
abbrev N_is_integer : List Str := ["value"]
def sp_is_integer (K : PySem.W.Frag) (w : World) : Sp := fun vs H Q _ => vs.length = 1 ∧ t_is_integer K w { nx := fun _ H' => Q .non H', rt := Q } (start N_is_integer vs) H
def t_is_within (K : PySem.W.Frag) (w : World) : TS :=
  (tSeq (tIfS (tNot (tTru K (tFn 1 0 (sp_is_integer K w) (fun vs _ => vs) E0 (tcP (tCons (tVar 0) tNil))))) (tRet (tC (.bl false))) tNext)
  (tRet (tAndT K (tOrT K (tOp qIs (tVar 1) (tC .non)) (tOp qLe (tVar 1) (tVar 0))) (tOrT K (tOp qIs (tVar 2) (tC .non)) (tOp qLe (tVar 0) (tVar 2))))))
abbrev N_is_within : List Str := ["value", "least", "most"]
def sp_is_within (K : PySem.W.Frag) (w : World) : Sp := fun vs H Q _ => vs.length = 3 ∧ t_is_within K w { nx := fun _ H' => Q .non H', rt := Q } (start N_is_within vs) H
def t_need_number (K : PySem.W.Frag) (w : World) : TS :=
  (tIfS (tNot (tTru K (tFn 3 0 (sp_is_within K w) (fun vs _ => vs) E0 (tcP (tCons (tVar 0) (tCons (tVar 2) (tCons (tVar 3) tNil))))))) tNever tNext)
abbrev N_need_number : List Str := ["value", "part", "least", "most"]
def sp_need_number (K : PySem.W.Frag) (w : World) : Sp := fun vs H Q _ => vs.length = 4 ∧ t_need_number K w { nx := fun _ H' => Q .non H', rt := Q } (start N_need_number vs) H
def t_need_length (K : PySem.W.Frag) (w : World) : TS :=
  (tSeq (tDrop (tFn 2 0 (sp_need_row K w) (fun vs _ => vs) E0 (tcP (tCons (tVar 0) (tCons (tC (.str "row")) tNil)))))
  (tDrop (tFn 4 0 (sp_need_number K w) (fun vs _ => vs) E0 (tcP (tCons (tVar 1) (tCons (tC (.str "length")) (tCons (tC (.int 1)) (tCons (tFld K (tVar 0) "days") tNil))))))))
abbrev N_need_length : List Str := ["row", "length"]
def sp_need_length (K : PySem.W.Frag) (w : World) : Sp := fun vs H Q _ => vs.length = 2 ∧ t_need_length K w { nx := fun _ H' => Q .non H', rt := Q } (start N_need_length vs) H
def t_sort_of (K : PySem.W.Frag) (w : World) : TS :=
  (tSeq (tDrop (tFn 2 0 (sp_need_length K w) (fun vs _ => vs) E0 (tcP (tCons (tVar 0) (tCons (tVar 1) tNil)))))
  (tRet (tFn 1 0 (sp_word_of K w) (fun vs _ => vs) E0 (tcP (tCons (tFn 2 0 (sp_sums_in K w) (fun vs _ => vs) E0 (tcP (tCons (tVar 0) (tCons (tVar 1) tNil)))) tNil)))))
abbrev N_sort_of : List Str := ["row", "length"]
def sp_sort_of (K : PySem.W.Frag) (w : World) : Sp := fun vs H Q _ => vs.length = 2 ∧ t_sort_of K w { nx := fun _ H' => Q .non H', rt := Q } (start N_sort_of vs) H
def t_sums (K : PySem.W.Frag) (w : World) : TS :=
  (tSeq (tDrop (tFn 2 0 (sp_need_length K w) (fun vs _ => vs) E0 (tcP (tCons (tVar 0) (tCons (tVar 1) tNil)))))
  (tRet (tFn 2 0 (sp_sums_in K w) (fun vs _ => vs) E0 (tcP (tCons (tVar 0) (tCons (tVar 1) tNil))))))
abbrev N_sums : List Str := ["row", "length"]
def sp_sums (K : PySem.W.Frag) (w : World) : Sp := fun vs H Q _ => vs.length = 2 ∧ t_sums K w { nx := fun _ H' => Q .non H', rt := Q } (start N_sums vs) H
def t_heights_of (K : PySem.W.Frag) (w : World) : TS :=
  (tSeq (tAsg (tLst (tCons (tC (.int 0)) tNil)) (gName 1))
  (tSeq (tFor (iSeq K (tVar 0)) (gName 2) (tDrop (tBM K "list" rAppend (tVar 1) (tCons (tOp (qAdd K) (tOp (rIx K) (tVar 1) (tUn (rU fun i => .int (-i)) (tC (.int 1)))) (tVar 2)) tNil))))
  (tRet (tCB (qTup K) (tCons (tVar 1) tNil)))))
abbrev N_heights_of : List Str := ["gains", "found", "gain"]
def sp_heights_of (K : PySem.W.Frag) (w : World) : Sp := fun vs H Q _ => vs.length = 1 ∧ t_heights_of K w { nx := fun _ H' => Q .non H', rt := Q } (start N_heights_of vs) H
def t_are_integers (K : PySem.W.Frag) (w : World) : TS :=
  (tRet (tAndT K (tCB (qIsi K) (tCons (tVar 0) (tCons (tTup (tCons (tC (.ty "list")) (tCons (tC (.ty "tuple")) tNil))) tNil))) (tCB (rAll K) (tCons (tLc (iSeq K (tVar 0)) (gName 1) tYes (tFn 1 0 (sp_is_integer K w) (fun vs _ => vs) E0 (tcP (tCons (tVar 1) tNil))) [1]) tNil))))
abbrev N_are_integers : List Str := ["value", "each"]
def sp_are_integers (K : PySem.W.Frag) (w : World) : Sp := fun vs H Q _ => vs.length = 1 ∧ t_are_integers K w { nx := fun _ H' => Q .non H', rt := Q } (start N_are_integers vs) H
def t_Row_init (K : PySem.W.Frag) (w : World) : TS :=
  (tSeq (tIfS (tOr (tNot (tTru K (tFn 1 0 (sp_are_integers K w) (fun vs _ => vs) E0 (tcP (tCons (tVar 1) tNil))))) (tTest (tOp (qEq K) (tCB (qLen K) (tCons (tVar 1) tNil)) (tC (.int 0))))) tNever tNext)
  (tSeq (tIfS (tTest (tOp qGt (tCB (qLen K) (tCons (tVar 1) tNil)) (tC (.int (48))))) tNever tNext)
  (tSeq (sFld K (tVar 0) (tCB (qTup K) (tCons (tVar 1) tNil)) "gains")
  (tSeq (sFld K (tVar 0) (tFn 1 0 (sp_heights_of K w) (fun vs _ => vs) E0 (tcP (tCons (tVar 1) tNil))) "heights")
  (tSeq (sFld K (tVar 0) (tCB (qLen K) (tCons (tVar 1) tNil)) "days")
  (sFld K (tVar 0) (tOp (rIx K) (tFld K (tVar 0) "heights") (tUn (rU fun i => .int (-i)) (tC (.int 1)))) "total"))))))
abbrev N_Row_init : List Str := ["self", "gains"]
def sp_Row_init (K : PySem.W.Frag) (w : World) : Sp := fun vs H Q _ => vs.length = 2 ∧ t_Row_init K w { nx := fun _ H' => Q .non H', rt := Q } (start N_Row_init vs) H
def t_Row_joined (K : PySem.W.Frag) (w : World) : TS :=
  (tSeq (tDrop (tFn 2 0 (sp_need_row K w) (fun vs _ => vs) E0 (tcP (tCons (tVar 1) (tCons (tC (.str "other")) tNil)))))
  (tRet (tNew (He.ga K "Row") 1 0 (sp_Row_init K w) (fun vs _ => vs) E0 (tcP (tCons (tLst (StX.tStar K (tFld K (tVar 0) "gains") (StX.tStar K (tFld K (tVar 1) "gains") tNil))) tNil)))))
abbrev N_Row_joined : List Str := ["self", "other"]
def sp_Row_joined (K : PySem.W.Frag) (w : World) : Sp := fun vs H Q _ => vs.length = 2 ∧ t_Row_joined K w { nx := fun _ H' => Q .non H', rt := Q } (start N_Row_joined vs) H
def t_Row_len (K : PySem.W.Frag) (w : World) : TS :=
  (tRet (tCB (qLen K) (tCons (tFld K (tVar 0) "gains") tNil)))
abbrev N_Row_len : List Str := ["self"]
def sp_Row_len (K : PySem.W.Frag) (w : World) : Sp := fun vs H Q _ => vs.length = 1 ∧ t_Row_len K w { nx := fun _ H' => Q .non H', rt := Q } (start N_Row_len vs) H
def t_law_twice_right (K : PySem.W.Frag) (w : World) : TS :=
  (tSeq (tPar3 1 2 3 (tCons (tNew (He.ga K "Row") 1 0 (sp_Row_init K w) (fun vs _ => vs) E0 (tcP (tCons (tVar 0) tNil))) (tCons (tCB (orC (qLen K) (rLenO (He.ga K "Row") (sp_Row_len K w) E0)) (tCons (tVar 0) tNil)) (tCons (tCB (rSum K) (tCons (tVar 0) tNil)) tNil))))
  (tSeq (tAsg (tMt (He.ga K "Row") "joined" 1 0 (sp_Row_joined K w) (fun vs _ => vs) E0 (tVar 1) (tcP (tCons (tVar 1) tNil))) (gName 4))
  (tSeq (tIfS (tTest (tOp (orR2 (qNe K) (rNeO K (He.ga K "Row") (sp_Row_eq K w) E0)) (tFn 2 0 (sp_sums K w) (fun vs _ => vs) E0 (tcP (tCons (tVar 4) (tCons (tVar 2) tNil)))) (tOp (qMulT K) (tTup (tCons (tVar 3) tNil)) (tOp (qAdd K) (tVar 2) (tC (.int 1)))))) (tRet (tC (.bl false))) tNext)
  (tSeq (tIfS (tOr (tTest (tOp (orR2 (qNe K) (rNeO K (He.ga K "Row") (sp_Row_eq K w) E0)) (tFn 2 0 (sp_sort_of K w) (fun vs _ => vs) E0 (tcP (tCons (tVar 4) (tCons (tVar 2) tNil)))) (tIf (tTest (tOp qGt (tVar 3) (tC (.int 0)))) (tC (.str "gains")) (tIf (tTest (tOp (qLt K) (tVar 3) (tC (.int 0)))) (tC (.str "loses")) (tC (.str "flat")))))) (tTest (tOp (orR2 (qNe K) (rNeO K (He.ga K "Row") (sp_Row_eq K w) E0)) (tFn 2 0 (sp_sort_of K w) (fun vs _ => vs) E0 (tcP (tCons (tVar 4) (tCons (tOp (qMulT K) (tC (.int 2)) (tVar 2)) tNil)))) (tFn 2 0 (sp_sort_of K w) (fun vs _ => vs) E0 (tcP (tCons (tVar 4) (tCons (tVar 2) tNil))))))) (tRet (tC (.bl false))) tNext)
  (tRet (tOrT K (tOp (orR2 (qNe K) (rNeO K (He.ga K "Row") (sp_Row_eq K w) E0)) (tVar 3) (tC (.int 0))) (tOp (orR2 (qEq K) (rEqO K (He.ga K "Row") (sp_Row_eq K w) E0)) (tLc (iSeq K (tSl (qSl K) (tFn 1 0 (sp_table_words K w) (fun vs _ => vs) E0 (tcP (tCons (tVar 4) tNil))) tNoPart (tPart (tVar 2)))) (gName 5) (tTest (tOp (qIn K) (tVar 5) (tTup (tCons (tC (.str "gains")) (tCons (tC (.str "loses")) tNil))))) (tVar 5) [5]) (tLst tNil))))))))
abbrev N_law_twice_right : List Str := ["_law_gains_here", "_law_row", "_law_days", "_law_total", "_law_both", "_law_word_here"]
def sp_law_twice_right (K : PySem.W.Frag) (w : World) : Sp := fun vs H Q _ => vs.length = 1 ∧ t_law_twice_right K w { nx := fun _ H' => Q .non H', rt := Q } (start N_law_twice_right vs) H
def t_law_word (K : PySem.W.Frag) (w : World) : TS :=
  (tSeq (tPar 1 2 (tCons (tCB (orC (qLen K) (rLenO (He.ga K "Row") (sp_Row_len K w) E0)) (tCons (tLc (iSeq K (tVar 0)) (gName 3) (tTest (tOp qGt (tVar 3) (tC (.int 0)))) (tVar 3) [3]) tNil)) (tCons (tCB (orC (qLen K) (rLenO (He.ga K "Row") (sp_Row_len K w) E0)) (tCons (tLc (iSeq K (tVar 0)) (gName 3) (tTest (tOp (qLt K) (tVar 3) (tC (.int 0)))) (tVar 3) [3]) tNil)) tNil)))
  (tSeq (tIfS (tTest (tOp (orR2 (qEq K) (rEqO K (He.ga K "Row") (sp_Row_eq K w) E0)) (tVar 1) (tCB (orC (qLen K) (rLenO (He.ga K "Row") (sp_Row_len K w) E0)) (tCons (tVar 0) tNil)))) (tRet (tC (.str "gains"))) tNext)
  (tSeq (tIfS (tTest (tOp (orR2 (qEq K) (rEqO K (He.ga K "Row") (sp_Row_eq K w) E0)) (tVar 2) (tCB (orC (qLen K) (rLenO (He.ga K "Row") (sp_Row_len K w) E0)) (tCons (tVar 0) tNil)))) (tRet (tC (.str "loses"))) tNext)
  (tRet (tIf (tTest (tOp (orR2 (qEq K) (rEqO K (He.ga K "Row") (sp_Row_eq K w) E0)) (tOp (qAdd K) (tVar 1) (tVar 2)) (tC (.int 0)))) (tC (.str "flat")) (tC (.str "mixed")))))))
abbrev N_law_word : List Str := ["_law_told", "_law_above", "_law_below", "_law_one"]
def sp_law_word (K : PySem.W.Frag) (w : World) : Sp := fun vs H Q _ => vs.length = 1 ∧ t_law_word K w { nx := fun _ H' => Q .non H', rt := Q } (start N_law_word vs) H
def t_law_sums (K : PySem.W.Frag) (w : World) : TS :=
  (tRet (tLc (iRng1 (tCons (tOp (qAdd K) (tOp qSub (tCB (orC (qLen K) (rLenO (He.ga K "Row") (sp_Row_len K w) E0)) (tCons (tVar 0) tNil)) (tVar 1)) (tC (.int 1))) tNil)) (gName 2) tYes (tCB (rSum K) (tCons (tSl (qSl K) (tVar 0) (tPart (tVar 2)) (tPart (tOp (qAdd K) (tVar 2) (tVar 1)))) tNil)) [2]))
abbrev N_law_sums : List Str := ["_law_gains_here", "_law_length", "_law_begin"]
def sp_law_sums (K : PySem.W.Frag) (w : World) : Sp := fun vs H Q _ => vs.length = 2 ∧ t_law_sums K w { nx := fun _ H' => Q .non H', rt := Q } (start N_law_sums vs) H
def t_law_words (K : PySem.W.Frag) (w : World) : TS :=
  (tRet (tLc (iRng2 (tCons (tC (.int 1)) (tCons (tOp (qAdd K) (tCB (orC (qLen K) (rLenO (He.ga K "Row") (sp_Row_len K w) E0)) (tCons (tVar 0) tNil)) (tC (.int 1))) tNil))) (gName 1) tYes (tFn 1 0 (sp_law_word K w) (fun vs _ => vs) E0 (tcP (tCons (tFn 2 0 (sp_law_sums K w) (fun vs _ => vs) E0 (tcP (tCons (tVar 0) (tCons (tVar 1) tNil)))) tNil))) [1]))
abbrev N_law_words : List Str := ["_law_gains_here", "_law_length"]
def sp_law_words (K : PySem.W.Frag) (w : World) : Sp := fun vs H Q _ => vs.length = 1 ∧ t_law_words K w { nx := fun _ H' => Q .non H', rt := Q } (start N_law_words vs) H
def t_law_joined_right (K : PySem.W.Frag) (w : World) : TS :=
  (tSeq (tPar 2 3 (tCons (tOp (qAdd K) (tVar 0) (tVar 1)) (tCons (tMt (He.ga K "Row") "joined" 1 0 (sp_Row_joined K w) (fun vs _ => vs) E0 (tNew (He.ga K "Row") 1 0 (sp_Row_init K w) (fun vs _ => vs) E0 (tcP (tCons (tVar 0) tNil))) (tcP (tCons (tNew (He.ga K "Row") 1 0 (sp_Row_init K w) (fun vs _ => vs) E0 (tcP (tCons (tVar 1) tNil))) tNil))) tNil)))
  (tSeq (tAsg (tFn 1 0 (sp_table_words K w) (fun vs _ => vs) E0 (tcP (tCons (tVar 3) tNil))) (gName 4))
  (tSeq (tIfS (tTest (tOp (orR2 (qNe K) (rNeO K (He.ga K "Row") (sp_Row_eq K w) E0)) (tCB (qLst K) (tCons (tVar 4) tNil)) (tFn 1 0 (sp_law_words K w) (fun vs _ => vs) E0 (tcP (tCons (tVar 2) tNil))))) (tRet (tC (.bl false))) tNext)
  (tSeq (tFor (iSeq K (tTup (tCons (tFn 1 0 (sp_table_words K w) (fun vs _ => vs) E0 (tcP (tCons (tNew (He.ga K "Row") 1 0 (sp_Row_init K w) (fun vs _ => vs) E0 (tcP (tCons (tVar 0) tNil))) tNil))) (tCons (tFn 1 0 (sp_table_words K w) (fun vs _ => vs) E0 (tcP (tCons (tNew (He.ga K "Row") 1 0 (sp_Row_init K w) (fun vs _ => vs) E0 (tcP (tCons (tVar 1) tNil))) tNil))) tNil)))) (gName 5) (tIfS (tTest (tOp (orR2 (qNe K) (rNeO K (He.ga K "Row") (sp_Row_eq K w) E0)) (tLc (iEnumT K (tCons (tVar 5) tNil)) (gTup K 2 (gCons (gName 6) (gCons (gName 7) gNil))) (tAnd (tTest (tOp (orR2 (qNe K) (rNeO K (He.ga K "Row") (sp_Row_eq K w) E0)) (tOp (rIx K) (tVar 4) (tVar 6)) (tC (.str "mixed")))) (tTest (tOp (orR2 (qNe K) (rNeO K (He.ga K "Row") (sp_Row_eq K w) E0)) (tVar 7) (tOp (rIx K) (tVar 4) (tVar 6))))) (tVar 6) [6, 7]) (tLst tNil))) (tRet (tC (.bl false))) tNext))
  (tRet (tC (.bl true)))))))
abbrev N_law_joined_right : List Str := ["_law_gains_here", "_law_others", "_law_whole", "_law_both", "_law_told", "_law_words_here", "_law_at", "_law_word_here"]
def sp_law_joined_right (K : PySem.W.Frag) (w : World) : Sp := fun vs H Q _ => vs.length = 2 ∧ t_law_joined_right K w { nx := fun _ H' => Q .non H', rt := Q } (start N_law_joined_right vs) H
def t_Row_added (K : PySem.W.Frag) (w : World) : TS :=
  (tSeq (tDrop (tFn 2 0 (sp_need_row K w) (fun vs _ => vs) E0 (tcP (tCons (tVar 1) (tCons (tC (.str "other")) tNil)))))
  (tSeq (tIfS (tTest (tOp (qNe K) (tFld K (tVar 1) "days") (tFld K (tVar 0) "days"))) tNever tNext)
  (tRet (tNew (He.ga K "Row") 1 0 (sp_Row_init K w) (fun vs _ => vs) E0 (tcP (tCons (tLc (iZipA K (tCons (tFld K (tVar 0) "gains") (tCons (tFld K (tVar 1) "gains") tNil))) (gTup K 2 (gCons (gName 2) (gCons (gName 3) gNil))) tYes (tOp (qAdd K) (tVar 2) (tVar 3)) [2, 3]) tNil))))))
abbrev N_Row_added : List Str := ["self", "other", "mine", "its"]
def sp_Row_added (K : PySem.W.Frag) (w : World) : Sp := fun vs H Q _ => vs.length = 2 ∧ t_Row_added K w { nx := fun _ H' => Q .non H', rt := Q } (start N_Row_added vs) H
def t_law_added_right (K : PySem.W.Frag) (w : World) : TS :=
  (tSeq (tPar3 2 3 4 (tCons (tMt (He.ga K "Row") "added" 1 0 (sp_Row_added K w) (fun vs _ => vs) E0 (tNew (He.ga K "Row") 1 0 (sp_Row_init K w) (fun vs _ => vs) E0 (tcP (tCons (tVar 0) tNil))) (tcP (tCons (tNew (He.ga K "Row") 1 0 (sp_Row_init K w) (fun vs _ => vs) E0 (tcP (tCons (tVar 1) tNil))) tNil))) (tCons (tFn 1 0 (sp_law_words K w) (fun vs _ => vs) E0 (tcP (tCons (tVar 0) tNil))) (tCons (tFn 1 0 (sp_law_words K w) (fun vs _ => vs) E0 (tcP (tCons (tVar 1) tNil))) tNil))))
  (tSeq (tAsg (tFn 1 0 (sp_table_words K w) (fun vs _ => vs) E0 (tcP (tCons (tVar 2) tNil))) (gName 5))
  (tSeq (tIfS (tTest (tOp (orR2 (qNe K) (rNeO K (He.ga K "Row") (sp_Row_eq K w) E0)) (tCB (qLst K) (tCons (tVar 5) tNil)) (tFn 1 0 (sp_law_words K w) (fun vs _ => vs) E0 (tcP (tCons (tLc (iZipA K (tCons (tVar 0) (tCons (tVar 1) tNil))) (gTup K 2 (gCons (gName 9) (gCons (gName 10) gNil))) tYes (tOp (qAdd K) (tVar 9) (tVar 10)) [9, 10]) tNil))))) (tRet (tC (.bl false))) tNext)
  (tSeq (tFor (iEnumT K (tCons (tVar 5) tNil)) (gTup K 2 (gCons (gName 6) (gCons (gName 7) gNil))) (tSeq (tAsg (tLst (tCons (tOp (rIx K) (tVar 3) (tVar 6)) (tCons (tOp (rIx K) (tVar 4) (tVar 6)) tNil))) (gName 8))
  (tSeq (tIfS (tAnd (tTest (tOp (orR2 (qEq K) (rEqO K (He.ga K "Row") (sp_Row_eq K w) E0)) (tOp (rIx K) (tVar 8) (tC (.int 0))) (tOp (rIx K) (tVar 8) (tC (.int 1))))) (tAnd (tTest (tOp (orR2 (qNe K) (rNeO K (He.ga K "Row") (sp_Row_eq K w) E0)) (tOp (rIx K) (tVar 8) (tC (.int 0))) (tC (.str "mixed")))) (tTest (tOp (orR2 (qNe K) (rNeO K (He.ga K "Row") (sp_Row_eq K w) E0)) (tVar 7) (tOp (rIx K) (tVar 8) (tC (.int 0))))))) (tRet (tC (.bl false))) tNext)
  (tIfS (tAnd (tTest (tOp (qIn K) (tC (.str "flat")) (tVar 8))) (tTest (tOp (orR2 (qNe K) (rNeO K (He.ga K "Row") (sp_Row_eq K w) E0)) (tVar 7) (tOp (rIx K) (tVar 8) (tOp qSub (tC (.int 1)) (tBM K "list" (rIndexS K) (tVar 8) (tCons (tC (.str "flat")) tNil))))))) (tRet (tC (.bl false))) tNext))))
  (tRet (tC (.bl true)))))))
abbrev N_law_added_right : List Str := ["_law_gains_here", "_law_others", "_law_both", "_law_mine", "_law_its", "_law_told", "_law_at", "_law_word_here", "_law_pair", "_law_one", "_law_other"]
def sp_law_added_right (K : PySem.W.Frag) (w : World) : Sp := fun vs H Q _ => vs.length = 2 ∧ t_law_added_right K w { nx := fun _ H' => Q .non H', rt := Q } (start N_law_added_right vs) H
def t_Row_plus (K : PySem.W.Frag) (w : World) : TS :=
  (tSeq (tDrop (tFn 4 0 (sp_need_number K w) (fun vs _ => vs) E0 (tcP (tCons (tVar 1) (tCons (tC (.str "number")) (tCons (tC .non) (tCons (tC .non) tNil)))))))
  (tRet (tNew (He.ga K "Row") 1 0 (sp_Row_init K w) (fun vs _ => vs) E0 (tcP (tCons (tLc (iSeq K (tFld K (tVar 0) "gains")) (gName 2) tYes (tOp (qAdd K) (tVar 2) (tVar 1)) [2]) tNil)))))
abbrev N_Row_plus : List Str := ["self", "number", "gain"]
def sp_Row_plus (K : PySem.W.Frag) (w : World) : Sp := fun vs H Q _ => vs.length = 2 ∧ t_Row_plus K w { nx := fun _ H' => Q .non H', rt := Q } (start N_Row_plus vs) H
def t_law_drip (K : PySem.W.Frag) (w : World) : TS :=
  (tSeq (tIfS (tTest (tOp qGt (tOp (rIx K) (tVar 0) (tC (.int 2))) (tC (.int 0)))) (tSeq (tAsg (tOp qMd (tCB qInt (tCons (tOp (rIx K) (tVar 0) (tC (.int 2))) tNil)) (tVar 1)) (gName 2))
  (tSeq (tAsg (tOp qFd (tCB qInt (tCons (tOp (rIx K) (tVar 0) (tC (.int 2))) tNil)) (tVar 1)) (gSub (tVar 0) (tC (.int 2)) rSetL))
  (tRet (tVar 2)))) tNext)
  (tSeq (tAsg (tOp (rIx K) (tVar 0) (tC (.int 1))) (gName 3))
  (tSeq (tAsg (tOp (qAdd K) (tVar 3) (tC (.int 1))) (gSub (tVar 0) (tC (.int 1)) rSetL))
  (tSeq (tAsg (tOp (qAdd K) (tOp (qMulT K) (tC (.int 63079)) (tVar 3)) (tC (.int 8179))) (gName 4))
  (tSeq (tIfS (tTest (tOp (orR2 (qNe K) (rNeO K (He.ga K "Row") (sp_Row_eq K w) E0)) (tOp (rIx K) (tVar 0) (tC (.int 0))) (tLst tNil))) (tAsg (tOp (rIx K) (tOp (rIx K) (tVar 0) (tC (.int 0))) (tOp qMd (tCB qInt (tCons (tVar 3) tNil)) (tCB (orC (qLen K) (rLenO (He.ga K "Row") (sp_Row_len K w) E0)) (tCons (tOp (rIx K) (tVar 0) (tC (.int 0))) tNil)))) (gName 4)) tNext)
  (tSeq (tIfS (tAnd (tTest (tOp (qLt K) (tVar 3) (tCB (orC (qLen K) (rLenO (He.ga K "Row") (sp_Row_len K w) E0)) (tCons (tOp (rIx K) (tVar 0) (tC (.int 0))) tNil)))) (tTest (tOp qGe (tCB qAbs (tCons (tVar 4) tNil)) (tOp qPw (tC (.int 10)) (tC (.int 18)))))) (tSeq (tAsg (tOp (qAdd K) (tOp (qMulT K) (tC (.int 2)) (tOp qSub (tCB qAbs (tCons (tVar 4) tNil)) (tOp qPw (tC (.int 10)) (tC (.int 18))))) (tCB qInt (tCons (tOp (qLt K) (tVar 4) (tC (.int 0))) tNil))) (gName 5))
  (tSeq (tAsg (tOp qFd (tCB qInt (tCons (tVar 5) tNil)) (tVar 1)) (gSub (tVar 0) (tC (.int 2)) rSetL))
  (tRet (tOp qMd (tCB qInt (tCons (tVar 5) tNil)) (tVar 1))))) tNext)
  (tSeq (tAsg (tOp qMd (tCB qInt (tCons (tOp qPw (tOp (qAdd K) (tOp (qAdd K) (tOp qMd (tCB qInt (tCons (tVar 4) tNil)) (tC (.int 2147483563))) (tOp (qMulT K) (tC (.int 74561)) (tVar 3))) (tC (.int 8179))) (tC (.int 5))) tNil)) (tC (.int 2147483629))) (gName 6))
  (tSeq (tAsg (tOp qMd (tCB qInt (tCons (tOp qPw (tOp (qAdd K) (tOp (qAdd K) (tOp (qMulT K) (tVar 6) (tOp (qAdd K) (tOp (qMulT K) (tC (.int 2)) (tVar 3)) (tC (.int 2459)))) (tOp (qMulT K) (tOp (qMulT K) (tC (.int 63079)) (tVar 3)) (tVar 3))) (tC (.int 93703))) (tC (.int 3))) tNil)) (tC (.int 2147483549))) (gName 6))
  (tRet (tOp qMd (tCB qInt (tCons (tOp qFd (tVar 6) (tC (.int 64))) tNil)) (tVar 1)))))))))))
abbrev N_law_drip : List Str := ["_law_tap_here", "_law_many", "_law_digit", "_law_at", "_law_cell", "_law_great", "_law_mixed"]
def sp_law_drip (K : PySem.W.Frag) (w : World) : Sp := fun vs H Q _ => vs.length = 2 ∧ t_law_drip K w { nx := fun _ H' => Q .non H', rt := Q } (start N_law_drip vs) H
def t_law_any (K : PySem.W.Frag) (w : World) : TS :=
  (tRet (tOp (rIx K) (tVar 1) (tFn 2 0 (sp_law_drip K w) (fun vs _ => vs) E0 (tcP (tCons (tVar 0) (tCons (tCB (orC (qLen K) (rLenO (He.ga K "Row") (sp_Row_len K w) E0)) (tCons (tVar 1) tNil)) tNil))))))
abbrev N_law_any : List Str := ["_law_tap_here", "_law_some"]
def sp_law_any (K : PySem.W.Frag) (w : World) : Sp := fun vs H Q _ => vs.length = 2 ∧ t_law_any K w { nx := fun _ H' => Q .non H', rt := Q } (start N_law_any vs) H
def t_Row_times (K : PySem.W.Frag) (w : World) : TS :=
  (tSeq (tDrop (tFn 4 0 (sp_need_number K w) (fun vs _ => vs) E0 (tcP (tCons (tVar 1) (tCons (tC (.str "number")) (tCons (tC .non) (tCons (tC .non) tNil)))))))
  (tRet (tNew (He.ga K "Row") 1 0 (sp_Row_init K w) (fun vs _ => vs) E0 (tcP (tCons (tLc (iSeq K (tFld K (tVar 0) "gains")) (gName 2) tYes (tOp (qMulT K) (tVar 1) (tVar 2)) [2]) tNil)))))
abbrev N_Row_times : List Str := ["self", "number", "gain"]
def sp_Row_times (K : PySem.W.Frag) (w : World) : Sp := fun vs H Q _ => vs.length = 2 ∧ t_Row_times K w { nx := fun _ H' => Q .non H', rt := Q } (start N_Row_times vs) H
def t_Row_backwards (K : PySem.W.Frag) (w : World) : TS :=
  (tRet (tNew (He.ga K "Row") 1 0 (sp_Row_init K w) (fun vs _ => vs) E0 (tcP (tCons (tRevA K (tFld K (tVar 0) "gains")) tNil))))
abbrev N_Row_backwards : List Str := ["self"]
def sp_Row_backwards (K : PySem.W.Frag) (w : World) : Sp := fun vs H Q _ => vs.length = 1 ∧ t_Row_backwards K w { nx := fun _ H' => Q .non H', rt := Q } (start N_Row_backwards vs) H
def t_law_alone_right (K : PySem.W.Frag) (w : World) : TS :=
  (tSeq (tPar3 2 3 4 (tCons (tNew (He.ga K "Row") 1 0 (sp_Row_init K w) (fun vs _ => vs) E0 (tcP (tCons (tVar 1) tNil))) (tCons (tFn 1 0 (sp_law_words K w) (fun vs _ => vs) E0 (tcP (tCons (tVar 1) tNil))) (tCons (tCB (orC (qLen K) (rLenO (He.ga K "Row") (sp_Row_len K w) E0)) (tCons (tVar 1) tNil)) tNil))))
  (tSeq (tAsg (tLc (iSeq K (tVar 3)) (gName 10) tYes (tDGet2 (tDisp (trsS [("gains", "loses"), ("loses", "gains")])) (tVar 10) (tVar 10)) [10]) (gName 5))
  (tSeq (tAsg (tTup (tCons (tOp (qAdd K) (tC (.int 1)) (tFn 2 0 (sp_law_any K w) (fun vs _ => vs) E0 (tcP (tCons (tVar 0) (tCons (tLst (tCons (tC (.int 0)) (tCons (tC (.int 1)) (tCons (tC (.int 6)) (tCons (tOp qPw (tC (.int 10)) (tC (.int 9))) tNil))))) tNil))))) (tCons (tOp (qAdd K) (tC (.int 1)) (tFn 2 0 (sp_law_drip K w) (fun vs _ => vs) E0 (tcP (tCons (tVar 0) (tCons (tVar 4) tNil))))) tNil))) (gTup K 2 (gCons (gName 6) (gCons (gName 7) gNil))))
  (tSeq (tIfS (tOr (tTest (tOp (orR2 (qNe K) (rNeO K (He.ga K "Row") (sp_Row_eq K w) E0)) (tCB (qLst K) (tCons (tFn 1 0 (sp_table_words K w) (fun vs _ => vs) E0 (tcP (tCons (tMt (He.ga K "Row") "backwards" 0 0 (sp_Row_backwards K w) (fun vs _ => vs) E0 (tVar 2) (tcP tNil)) tNil))) tNil)) (tVar 3))) (tTest (tOp (orR2 (qNe K) (rNeO K (He.ga K "Row") (sp_Row_eq K w) E0)) (tFn 2 0 (sp_sums K w) (fun vs _ => vs) E0 (tcP (tCons (tMt (He.ga K "Row") "backwards" 0 0 (sp_Row_backwards K w) (fun vs _ => vs) E0 (tVar 2) (tcP tNil)) (tCons (tVar 7) tNil)))) (tCB (qTup K) (tCons (tRevA K (tFn 2 0 (sp_law_sums K w) (fun vs _ => vs) E0 (tcP (tCons (tVar 1) (tCons (tVar 7) tNil))))) tNil))))) (tRet (tC (.bl false))) tNext)
  (tSeq (tIfS (tOr (tTest (tOp (orR2 (qNe K) (rNeO K (He.ga K "Row") (sp_Row_eq K w) E0)) (tCB (qLst K) (tCons (tFn 1 0 (sp_table_words K w) (fun vs _ => vs) E0 (tcP (tCons (tMt (He.ga K "Row") "times" 1 0 (sp_Row_times K w) (fun vs _ => vs) E0 (tVar 2) (tcP (tCons (tVar 6) tNil))) tNil))) tNil)) (tVar 3))) (tOr (tTest (tOp (orR2 (qNe K) (rNeO K (He.ga K "Row") (sp_Row_eq K w) E0)) (tCB (qLst K) (tCons (tFn 1 0 (sp_table_words K w) (fun vs _ => vs) E0 (tcP (tCons (tMt (He.ga K "Row") "times" 1 0 (sp_Row_times K w) (fun vs _ => vs) E0 (tVar 2) (tcP (tCons (tUn (rU fun i => .int (-i)) (tVar 6)) tNil))) tNil))) tNil)) (tVar 5))) (tTest (tOp (orR2 (qNe K) (rNeO K (He.ga K "Row") (sp_Row_eq K w) E0)) (tFn 1 0 (sp_table_words K w) (fun vs _ => vs) E0 (tcP (tCons (tMt (He.ga K "Row") "times" 1 0 (sp_Row_times K w) (fun vs _ => vs) E0 (tVar 2) (tcP (tCons (tC (.int 0)) tNil))) tNil))) (tOp (qMulT K) (tTup (tCons (tC (.str "flat")) tNil)) (tVar 4)))))) (tRet (tC (.bl false))) tNext)
  (tSeq (tAsg (tFn 2 0 (sp_law_any K w) (fun vs _ => vs) E0 (tcP (tCons (tVar 0) (tCons (tLst (tCons (tC (.int 1)) (tCons (tUn (rU fun i => .int (-i)) (tC (.int 1))) (tCons (tC (.int 4)) (tCons (tUn (rU fun i => .int (-i)) (tC (.int 3))) tNil))))) tNil)))) (gName 8))
  (tSeq (tIfS (tTest (tOp (orR2 (qNe K) (rNeO K (He.ga K "Row") (sp_Row_eq K w) E0)) (tFn 2 0 (sp_sums K w) (fun vs _ => vs) E0 (tcP (tCons (tMt (He.ga K "Row") "plus" 1 0 (sp_Row_plus K w) (fun vs _ => vs) E0 (tVar 2) (tcP (tCons (tVar 8) tNil))) (tCons (tVar 7) tNil)))) (tCB (qTup K) (tCons (tLc (iSeq K (tFn 2 0 (sp_law_sums K w) (fun vs _ => vs) E0 (tcP (tCons (tVar 1) (tCons (tVar 7) tNil))))) (gName 11) tYes (tOp (qAdd K) (tVar 11) (tOp (qMulT K) (tVar 7) (tVar 8))) [11]) tNil)))) (tRet (tC (.bl false))) tNext)
  (tSeq (tAsg (tOp (qAdd K) (tC (.int 1)) (tCB (qMxT K) (tCons (tLc (iSeq K (tVar 1)) (gName 12) tYes (tCB qAbs (tCons (tVar 12) tNil)) [12]) tNil))) (gName 9))
  (tRet (tAndT K (tOp (orR2 (qEq K) (rEqO K (He.ga K "Row") (sp_Row_eq K w) E0)) (tFn 1 0 (sp_table_words K w) (fun vs _ => vs) E0 (tcP (tCons (tMt (He.ga K "Row") "plus" 1 0 (sp_Row_plus K w) (fun vs _ => vs) E0 (tVar 2) (tcP (tCons (tVar 9) tNil))) tNil))) (tOp (qMulT K) (tTup (tCons (tC (.str "gains")) tNil)) (tVar 4))) (tOp (orR2 (qEq K) (rEqO K (He.ga K "Row") (sp_Row_eq K w) E0)) (tFn 1 0 (sp_table_words K w) (fun vs _ => vs) E0 (tcP (tCons (tMt (He.ga K "Row") "plus" 1 0 (sp_Row_plus K w) (fun vs _ => vs) E0 (tVar 2) (tcP (tCons (tUn (rU fun i => .int (-i)) (tVar 9)) tNil))) tNil))) (tOp (qMulT K) (tTup (tCons (tC (.str "loses")) tNil)) (tVar 4)))))))))))))
abbrev N_law_alone_right : List Str := ["_law_tap_here", "_law_gains_here", "_law_row", "_law_due", "_law_days", "_law_turned", "_law_number", "_law_length", "_law_more", "_law_great", "_law_word_here", "_law_one", "_law_gain"]
def sp_law_alone_right (K : PySem.W.Frag) (w : World) : Sp := fun vs H Q _ => vs.length = 2 ∧ t_law_alone_right K w { nx := fun _ H' => Q .non H', rt := Q } (start N_law_alone_right vs) H
def t_law_gains (K : PySem.W.Frag) (w : World) : TS :=
  (tSeq (tAsg (tFn 2 0 (sp_law_drip K w) (fun vs _ => vs) E0 (tcP (tCons (tVar 0) (tCons (tC (.int 7)) tNil)))) (gName 2))
  (tSeq (tIfS (tTest (tOp (qLt K) (tVar 2) (tC (.int 2)))) (tRet (tLc (iRng1 (tCons (tVar 1) tNil)) (gName 6) tYes (tOp qSub (tFn 2 0 (sp_law_drip K w) (fun vs _ => vs) E0 (tcP (tCons (tVar 0) (tCons (tC (.int 7)) tNil)))) (tC (.int 3))) [6])) tNext)
  (tSeq (tIfS (tTest (tOp (orR2 (qEq K) (rEqO K (He.ga K "Row") (sp_Row_eq K w) E0)) (tVar 2) (tC (.int 2)))) (tRet (tLc (iRng1 (tCons (tVar 1) tNil)) (gName 6) tYes (tFn 2 0 (sp_law_any K w) (fun vs _ => vs) E0 (tcP (tCons (tVar 0) (tCons (tLst (tCons (tC (.int 0)) (tCons (tC (.int 0)) (tCons (tC (.int 0)) (tCons (tC (.int 1)) (tCons (tUn (rU fun i => .int (-i)) (tC (.int 1))) tNil)))))) tNil)))) [6])) tNext)
  (tSeq (tIfS (tTest (tOp (orR2 (qEq K) (rEqO K (He.ga K "Row") (sp_Row_eq K w) E0)) (tVar 2) (tC (.int 3)))) (tRet (tLc (iRng1 (tCons (tVar 1) tNil)) (gName 6) tYes (tFn 2 0 (sp_law_any K w) (fun vs _ => vs) E0 (tcP (tCons (tVar 0) (tCons (tLst (tCons (tOp qPw (tC (.int 10)) (tC (.int 20))) (tCons (tOp qSub (tC (.int 1)) (tOp qPw (tC (.int 10)) (tC (.int 20)))) (tCons (tOp qPw (tC (.int 10)) (tC (.int 6))) (tCons (tC (.int 0)) (tCons (tUn (rU fun i => .int (-i)) (tC (.int 999999))) (tCons (tC (.int 7)) tNil))))))) tNil)))) [6])) tNext)
  (tSeq (tAsg (tLc (iRng1 (tCons (tOp (qAdd K) (tC (.int 1)) (tFn 2 0 (sp_law_drip K w) (fun vs _ => vs) E0 (tcP (tCons (tVar 0) (tCons (tC (.int 5)) tNil))))) tNil)) (gName 6) tYes (tOp qSub (tFn 2 0 (sp_law_drip K w) (fun vs _ => vs) E0 (tcP (tCons (tVar 0) (tCons (tC (.int 9)) tNil)))) (tC (.int 4))) [6]) (gName 3))
  (tSeq (tIfS (tTest (tOp (orR2 (qEq K) (rEqO K (He.ga K "Row") (sp_Row_eq K w) E0)) (tVar 2) (tC (.int 4)))) (tAsg (tOp qSub (tOp (rIx K) (tVar 3) (tC (.int 0))) (tCB (rSum K) (tCons (tVar 3) tNil))) (gSub (tVar 3) (tC (.int 0)) rSetL)) tNext)
  (tSeq (tAsg (tLc (iRng1 (tCons (tVar 1) tNil)) (gName 6) tYes (tOp (rIx K) (tVar 3) (tOp qMd (tCB qInt (tCons (tVar 6) tNil)) (tCB (orC (qLen K) (rLenO (He.ga K "Row") (sp_Row_len K w) E0)) (tCons (tVar 3) tNil)))) [6]) (gName 4))
  (tSeq (tIfS (tTest (tOp (orR2 (qEq K) (rEqO K (He.ga K "Row") (sp_Row_eq K w) E0)) (tVar 2) (tC (.int 6)))) (tSeq (tAsg (tFn 2 0 (sp_law_drip K w) (fun vs _ => vs) E0 (tcP (tCons (tVar 0) (tCons (tVar 1) tNil)))) (gName 5))
  (tAsg (tOp (qAdd K) (tOp (rIx K) (tVar 4) (tVar 5)) (tFn 2 0 (sp_law_any K w) (fun vs _ => vs) E0 (tcP (tCons (tVar 0) (tCons (tLst (tCons (tC (.int 1)) (tCons (tUn (rU fun i => .int (-i)) (tC (.int 1))) (tCons (tC (.int 30)) tNil)))) tNil))))) (gSub (tVar 4) (tVar 5) rSetL))) tNext)
  (tRet (tVar 4))))))))))
abbrev N_law_gains : List Str := ["_law_tap_here", "_law_days", "_law_way", "_law_few", "_law_found", "_law_at", "_law_day"]
def sp_law_gains (K : PySem.W.Frag) (w : World) : Sp := fun vs H Q _ => vs.length = 2 ∧ t_law_gains K w { nx := fun _ H' => Q .non H', rt := Q } (start N_law_gains vs) H
def t_law_known (K : PySem.W.Frag) (w : World) : TS :=
  (tRet (tFn 2 0 (sp_law_any K w) (fun vs _ => vs) E0 (tcP (tCons (tVar 0) (tCons (tLst (tCons (tLst (tCons (tUn (rU fun i => .int (-i)) (tC (.int 3))) (tCons (tC (.int 5)) (tCons (tUn (rU fun i => .int (-i)) (tC (.int 3))) (tCons (tUn (rU fun i => .int (-i)) (tC (.int 3))) (tCons (tC (.int 5)) (tCons (tUn (rU fun i => .int (-i)) (tC (.int 3))) tNil))))))) (tCons (tLst (tCons (tC (.int 5)) (tCons (tC (.int 5)) (tCons (tUn (rU fun i => .int (-i)) (tC (.int 13))) (tCons (tC (.int 5)) (tCons (tC (.int 5)) (tCons (tC (.int 5)) (tCons (tUn (rU fun i => .int (-i)) (tC (.int 13))) (tCons (tC (.int 5)) (tCons (tC (.int 5)) (tCons (tUn (rU fun i => .int (-i)) (tC (.int 13))) (tCons (tC (.int 5)) (tCons (tC (.int 5)) (tCons (tC (.int 5)) (tCons (tUn (rU fun i => .int (-i)) (tC (.int 13))) (tCons (tC (.int 5)) (tCons (tC (.int 5)) tNil))))))))))))))))) (tCons (tLst (tCons (tUn (rU fun i => .int (-i)) (tC (.int 1))) (tCons (tC (.int 3)) (tCons (tUn (rU fun i => .int (-i)) (tC (.int 1))) (tCons (tUn (rU fun i => .int (-i)) (tC (.int 3))) (tCons (tC (.int 0)) (tCons (tC (.int 3)) (tCons (tUn (rU fun i => .int (-i)) (tC (.int 1))) tNil)))))))) (tCons (tLst (tCons (tC (.int 1)) (tCons (tUn (rU fun i => .int (-i)) (tC (.int 1))) (tCons (tC (.int 1)) (tCons (tUn (rU fun i => .int (-i)) (tC (.int 1))) (tCons (tC (.int 1)) tNil)))))) (tCons (tLst (tCons (tC (.int 0)) (tCons (tC (.int 0)) (tCons (tC (.int 0)) tNil)))) (tCons (tLst (tCons (tUn (rU fun i => .int (-i)) (tC (.int 1))) (tCons (tC (.int 2)) (tCons (tUn (rU fun i => .int (-i)) (tC (.int 1))) tNil)))) (tCons (tLst (tCons (tC (.int 4)) tNil)) tNil)))))))) tNil)))))
abbrev N_law_known : List Str := ["_law_tap_here"]
def sp_law_known (K : PySem.W.Frag) (w : World) : Sp := fun vs H Q _ => vs.length = 1 ∧ t_law_known K w { nx := fun _ H' => Q .non H', rt := Q } (start N_law_known vs) H
def t_law_tap (K : PySem.W.Frag) (w : World) : TS :=
  (tRet (tLst (tCons (tLc (iSeq K (tSl (qSl K) (tVar 0) tNoPart (tPart (tC (.int 60))))) (gName 1) tYes (tCB qInt (tCons (tVar 1) tNil)) [1]) (tCons (tC (.int 0)) (tCons (tC (.int 0)) tNil)))))
abbrev N_law_tap : List Str := ["_law_script", "_law_cell"]
def sp_law_tap (K : PySem.W.Frag) (w : World) : Sp := fun vs H Q _ => vs.length = 1 ∧ t_law_tap K w { nx := fun _ H' => Q .non H', rt := Q } (start N_law_tap vs) H
def t_law (K : PySem.W.Frag) (w : World) : TS :=
  (tSeq (tAsg (tFn 1 0 (sp_law_tap K w) (fun vs _ => vs) E0 (tcP (tCons (tVar 0) tNil))) (gName 1))
  (tSeq (tFor (iRng1 (tCons (tC (.int 3)) tNil)) (gName 2) (tSeq (tAsg (tFn 2 0 (sp_law_gains K w) (fun vs _ => vs) E0 (tcP (tCons (tVar 1) (tCons (tFn 2 0 (sp_law_any K w) (fun vs _ => vs) E0 (tcP (tCons (tVar 1) (tCons (tLst (tCons (tC (.int 6)) (tCons (tC (.int 12)) (tCons (tC (.int 5)) (tCons (tC (.int 1)) (tCons (tC (.int 16)) (tCons (tC (.int 7)) (tCons (tC (.int 2)) (tCons (tC (.int 8)) (tCons (tC (.int 9)) (tCons (tC (.int 3)) tNil))))))))))) tNil)))) tNil)))) (gName 3))
  (tSeq (tIfS (tTest (tOp (orR2 (qEq K) (rEqO K (He.ga K "Row") (sp_Row_eq K w) E0)) (tFn 2 0 (sp_law_drip K w) (fun vs _ => vs) E0 (tcP (tCons (tVar 1) (tCons (tC (.int 3)) tNil)))) (tC (.int 0)))) (tAsg (tFn 1 0 (sp_law_known K w) (fun vs _ => vs) E0 (tcP (tCons (tVar 1) tNil))) (gName 3)) tNext)
  (tSeq (tAsg (tFn 2 0 (sp_law_gains K w) (fun vs _ => vs) E0 (tcP (tCons (tVar 1) (tCons (tCB (qLen K) (tCons (tVar 3) tNil)) tNil)))) (gName 4))
  (tSeq (tIfS (tTest (tOp (orR2 (qEq K) (rEqO K (He.ga K "Row") (sp_Row_eq K w) E0)) (tFn 2 0 (sp_law_drip K w) (fun vs _ => vs) E0 (tcP (tCons (tVar 1) (tCons (tC (.int 3)) tNil)))) (tC (.int 0)))) (tAsg (tIf (tTest (tOp (orR2 (qEq K) (rEqO K (He.ga K "Row") (sp_Row_eq K w) E0)) (tFn 2 0 (sp_law_drip K w) (fun vs _ => vs) E0 (tcP (tCons (tVar 1) (tCons (tC (.int 3)) tNil)))) (tC (.int 0)))) (tOp (qMulT K) (tLst (tCons (tC (.int 0)) tNil)) (tCB (qLen K) (tCons (tVar 3) tNil))) (tLc (iSeq K (tVar 3)) (gName 5) tYes (tOp (qMulT K) (tFn 2 0 (sp_law_any K w) (fun vs _ => vs) E0 (tcP (tCons (tVar 1) (tCons (tLst (tCons (tC (.int 2)) (tCons (tUn (rU fun i => .int (-i)) (tC (.int 1))) (tCons (tC (.int 3)) tNil)))) tNil)))) (tVar 5)) [5])) (gName 4)) tNext)
  (tSeq (tIfS (tOr (tNot (tTru K (tFn 2 0 (sp_law_alone_right K w) (fun vs _ => vs) E0 (tcP (tCons (tVar 1) (tCons (tVar 3) tNil)))))) (tNot (tTru K (tFn 2 0 (sp_law_added_right K w) (fun vs _ => vs) E0 (tcP (tCons (tVar 3) (tCons (tVar 4) tNil))))))) (tRet (tC (.bl false))) tNext)
  (tIfS (tOr (tNot (tTru K (tFn 2 0 (sp_law_joined_right K w) (fun vs _ => vs) E0 (tcP (tCons (tVar 3) (tCons (tVar 4) tNil)))))) (tNot (tTru K (tFn 1 0 (sp_law_twice_right K w) (fun vs _ => vs) E0 (tcP (tCons (tVar 3) tNil)))))) (tRet (tC (.bl false))) tNext)))))))
  (tRet (tC (.bl true)))))
abbrev N_law : List Str := ["_law_script", "_law_tap_here", "_law_turn", "_law_gains_here", "_law_others", "_law_gain"]
def sp_law (K : PySem.W.Frag) (w : World) : Sp := fun vs H Q _ => vs.length = 1 ∧ t_law K w { nx := fun _ H' => Q .non H', rt := Q } (start N_law vs) H
end K10

set_option Elab.async false
set_option linter.all false
set_option maxRecDepth 100000
set_option maxHeartbeats 4000000
namespace K10
open PySem PySem.Spec PyProof.Rows L2 Rl RZ RT Px
def clsT : CT := [("Row", ["Row"])]
theorem wx_Row_eq : ∃ w : WF, w = wDef 2 2
  (wRet (wAndT (wCB (dIsi clsT) (waCons (wVar 1) (waCons (wC (.cls "Row")) waNil))) (wOp dEq (wFld "gains" (wVar 0)) (wFld "gains" (wVar 1))))) := ⟨_, rfl⟩
@[irreducible] noncomputable def w_Row_eq : WF := Classical.choose wx_Row_eq
theorem w_Row_eq_eq : w_Row_eq = wDef 2 2
  (wRet (wAndT (wCB (dIsi clsT) (waCons (wVar 1) (waCons (wC (.cls "Row")) waNil))) (wOp dEq (wFld "gains" (wVar 0)) (wFld "gains" (wVar 1))))) := by
  unfold w_Row_eq
  exact Classical.choose_spec wx_Row_eq
theorem wx_word_of : ∃ w : WF, w = wDef 1 1
  (wSeq (wIfS (wTest (wOp dGt (wCB dMinT (waCons (wVar 0) waNil)) (wC (.int 0)))) (wRet (wC (.str "gains"))) wNext)
  (wKill [] (wSeq (wIfS (wTest (wOp dLt (wCB dMaxT (waCons (wVar 0) waNil)) (wC (.int 0)))) (wRet (wC (.str "loses"))) wNext)
  (wKill [] (wRet (wIf (wAnd (wTest (wOp dEq (wCB dMinT (waCons (wVar 0) waNil)) (wC (.int 0)))) (wTest (wOp dEq (wCB dMaxT (waCons (wVar 0) waNil)) (wC (.int 0))))) (wC (.str "flat")) (wC (.str "mixed")))))))) := ⟨_, rfl⟩
@[irreducible] noncomputable def w_word_of : WF := Classical.choose wx_word_of
theorem w_word_of_eq : w_word_of = wDef 1 1
  (wSeq (wIfS (wTest (wOp dGt (wCB dMinT (waCons (wVar 0) waNil)) (wC (.int 0)))) (wRet (wC (.str "gains"))) wNext)
  (wKill [] (wSeq (wIfS (wTest (wOp dLt (wCB dMaxT (waCons (wVar 0) waNil)) (wC (.int 0)))) (wRet (wC (.str "loses"))) wNext)
  (wKill [] (wRet (wIf (wAnd (wTest (wOp dEq (wCB dMinT (waCons (wVar 0) waNil)) (wC (.int 0)))) (wTest (wOp dEq (wCB dMaxT (waCons (wVar 0) waNil)) (wC (.int 0))))) (wC (.str "flat")) (wC (.str "mixed")))))))) := by
  unfold w_word_of
  exact Classical.choose_spec wx_word_of
theorem wx_sums_in : ∃ w : WF, w = wDef 2 4
  (wRet (wCB (b1 dTuple) (waCons (wLc false (wiZip (waCons (wFld "heights" (wVar 0)) (waCons (wSl false (wFld "heights" (wVar 0)) (woSome (wVar 1)) woNone) waNil))) (wgTup 2 (wgCons (wgName 2) (wgCons (wgName 3) wgNil))) wYes (wOp dSub (wVar 3) (wVar 2)) [2, 3]) waNil))) := ⟨_, rfl⟩
@[irreducible] noncomputable def w_sums_in : WF := Classical.choose wx_sums_in
theorem w_sums_in_eq : w_sums_in = wDef 2 4
  (wRet (wCB (b1 dTuple) (waCons (wLc false (wiZip (waCons (wFld "heights" (wVar 0)) (waCons (wSl false (wFld "heights" (wVar 0)) (woSome (wVar 1)) woNone) waNil))) (wgTup 2 (wgCons (wgName 2) (wgCons (wgName 3) wgNil))) wYes (wOp dSub (wVar 3) (wVar 2)) [2, 3]) waNil))) := by
  unfold w_sums_in
  exact Classical.choose_spec wx_sums_in
theorem wx_need_row : ∃ w : WF, w = wDef 2 2
  (wIfS (wNot (wTru (wCB (dIsi clsT) (waCons (wVar 0) (waCons (wC (.cls "Row")) waNil))))) wNever wNext) := ⟨_, rfl⟩
@[irreducible] noncomputable def w_need_row : WF := Classical.choose wx_need_row
theorem w_need_row_eq : w_need_row = wDef 2 2
  (wIfS (wNot (wTru (wCB (dIsi clsT) (waCons (wVar 0) (waCons (wC (.cls "Row")) waNil))))) wNever wNext) := by
  unfold w_need_row
  exact Classical.choose_spec wx_need_row
theorem wx_table_words : ∃ w : WF, w = wDef 1 2
  (wSeq (wDrop (wFn 2 0 w_need_row (wcP (waCons (wVar 0) (waCons (wC (.str "row")) waNil)))))
  (wRet (wCB (b1 dTuple) (waCons (wLc false (wiR2 (waCons (wC (.int 1)) (waCons (wOp (dAdd false) (wFld "days" (wVar 0)) (wC (.int 1))) waNil))) (wgName 1) wYes (wFn 1 0 w_word_of (wcP (waCons (wFn 2 0 w_sums_in (wcP (waCons (wVar 0) (waCons (wVar 1) waNil)))) waNil))) [1]) waNil)))) := ⟨_, rfl⟩
@[irreducible] noncomputable def w_table_words : WF := Classical.choose wx_table_words
theorem w_table_words_eq : w_table_words = wDef 1 2
  (wSeq (wDrop (wFn 2 0 w_need_row (wcP (waCons (wVar 0) (waCons (wC (.str "row")) waNil)))))
  (wRet (wCB (b1 dTuple) (waCons (wLc false (wiR2 (waCons (wC (.int 1)) (waCons (wOp (dAdd false) (wFld "days" (wVar 0)) (wC (.int 1))) waNil))) (wgName 1) wYes (wFn 1 0 w_word_of (wcP (waCons (wFn 2 0 w_sums_in (wcP (waCons (wVar 0) (waCons (wVar 1) waNil)))) waNil))) [1]) waNil)))) := by
  unfold w_table_words
  exact Classical.choose_spec wx_table_words
theorem wx_is_integer : ∃ w : WF, w = wDef 1 1
  (wRet (wAndT (wCB (dIsi clsT) (waCons (wVar 0) (waCons (wC (.ty "int")) waNil))) (wNotT (wCB (dIsi clsT) (waCons (wVar 0) (waCons (wC (.ty "bool")) waNil)))))) := ⟨_, rfl⟩
@[irreducible] noncomputable def w_is_integer : WF := Classical.choose wx_is_integer
theorem w_is_integer_eq : w_is_integer = wDef 1 1
  (wRet (wAndT (wCB (dIsi clsT) (waCons (wVar 0) (waCons (wC (.ty "int")) waNil))) (wNotT (wCB (dIsi clsT) (waCons (wVar 0) (waCons (wC (.ty "bool")) waNil)))))) := by
  unfold w_is_integer
  exact Classical.choose_spec wx_is_integer
theorem wx_is_within : ∃ w : WF, w = wDef 3 3
  (wSeq (wIfS (wNot (wTru (wFn 1 0 w_is_integer (wcP (waCons (wVar 0) waNil))))) (wRet (wC (.bl false))) wNext)
  (wKill [] (wRet (wAndT (wOrT (wOp dIs (wVar 1) (wC .non)) (wOp dLe (wVar 1) (wVar 0))) (wOrT (wOp dIs (wVar 2) (wC .non)) (wOp dLe (wVar 0) (wVar 2))))))) := ⟨_, rfl⟩
@[irreducible] noncomputable def w_is_within : WF := Classical.choose wx_is_within
theorem w_is_within_eq : w_is_within = wDef 3 3
  (wSeq (wIfS (wNot (wTru (wFn 1 0 w_is_integer (wcP (waCons (wVar 0) waNil))))) (wRet (wC (.bl false))) wNext)
  (wKill [] (wRet (wAndT (wOrT (wOp dIs (wVar 1) (wC .non)) (wOp dLe (wVar 1) (wVar 0))) (wOrT (wOp dIs (wVar 2) (wC .non)) (wOp dLe (wVar 0) (wVar 2))))))) := by
  unfold w_is_within
  exact Classical.choose_spec wx_is_within
theorem wx_need_number : ∃ w : WF, w = wDef 4 4
  (wIfS (wNot (wTru (wFn 3 0 w_is_within (wcP (waCons (wVar 0) (waCons (wVar 2) (waCons (wVar 3) waNil))))))) wNever wNext) := ⟨_, rfl⟩
@[irreducible] noncomputable def w_need_number : WF := Classical.choose wx_need_number
theorem w_need_number_eq : w_need_number = wDef 4 4
  (wIfS (wNot (wTru (wFn 3 0 w_is_within (wcP (waCons (wVar 0) (waCons (wVar 2) (waCons (wVar 3) waNil))))))) wNever wNext) := by
  unfold w_need_number
  exact Classical.choose_spec wx_need_number
theorem wx_need_length : ∃ w : WF, w = wDef 2 2
  (wSeq (wDrop (wFn 2 0 w_need_row (wcP (waCons (wVar 0) (waCons (wC (.str "row")) waNil)))))
  (wDrop (wFn 4 0 w_need_number (wcP (waCons (wVar 1) (waCons (wC (.str "length")) (waCons (wC (.int 1)) (waCons (wFld "days" (wVar 0)) waNil)))))))) := ⟨_, rfl⟩
@[irreducible] noncomputable def w_need_length : WF := Classical.choose wx_need_length
theorem w_need_length_eq : w_need_length = wDef 2 2
  (wSeq (wDrop (wFn 2 0 w_need_row (wcP (waCons (wVar 0) (waCons (wC (.str "row")) waNil)))))
  (wDrop (wFn 4 0 w_need_number (wcP (waCons (wVar 1) (waCons (wC (.str "length")) (waCons (wC (.int 1)) (waCons (wFld "days" (wVar 0)) waNil)))))))) := by
  unfold w_need_length
  exact Classical.choose_spec wx_need_length
theorem wx_sort_of : ∃ w : WF, w = wDef 2 2
  (wSeq (wDrop (wFn 2 0 w_need_length (wcP (waCons (wVar 0) (waCons (wVar 1) waNil)))))
  (wRet (wFn 1 0 w_word_of (wcP (waCons (wFn 2 0 w_sums_in (wcP (waCons (wVar 0) (waCons (wVar 1) waNil)))) waNil))))) := ⟨_, rfl⟩
@[irreducible] noncomputable def w_sort_of : WF := Classical.choose wx_sort_of
theorem w_sort_of_eq : w_sort_of = wDef 2 2
  (wSeq (wDrop (wFn 2 0 w_need_length (wcP (waCons (wVar 0) (waCons (wVar 1) waNil)))))
  (wRet (wFn 1 0 w_word_of (wcP (waCons (wFn 2 0 w_sums_in (wcP (waCons (wVar 0) (waCons (wVar 1) waNil)))) waNil))))) := by
  unfold w_sort_of
  exact Classical.choose_spec wx_sort_of
theorem wx_sums : ∃ w : WF, w = wDef 2 2
  (wSeq (wDrop (wFn 2 0 w_need_length (wcP (waCons (wVar 0) (waCons (wVar 1) waNil)))))
  (wRet (wFn 2 0 w_sums_in (wcP (waCons (wVar 0) (waCons (wVar 1) waNil)))))) := ⟨_, rfl⟩
@[irreducible] noncomputable def w_sums : WF := Classical.choose wx_sums
theorem w_sums_eq : w_sums = wDef 2 2
  (wSeq (wDrop (wFn 2 0 w_need_length (wcP (waCons (wVar 0) (waCons (wVar 1) waNil)))))
  (wRet (wFn 2 0 w_sums_in (wcP (waCons (wVar 0) (waCons (wVar 1) waNil)))))) := by
  unfold w_sums
  exact Classical.choose_spec wx_sums
theorem wx_heights_of : ∃ w : WF, w = wDef 1 3
  (wSeq (wAsg (wLst true (waCons (wC (.int 0)) waNil)) (wgName 1))
  (wSeq (wFor (wiAny (wVar 0)) (wgName 2) (wDrop (wBL dApp (wVar 1) (waCons (wOp (dAdd false) (wOp dIx (wVar 1) (wUn dNeg (wC (.int 1)))) (wVar 2)) waNil))) [0, 2])
  (wRet (wDp [1] (wCB (b1 dTuple) (waCons (wVar 1) waNil)))))) := ⟨_, rfl⟩
@[irreducible] noncomputable def w_heights_of : WF := Classical.choose wx_heights_of
theorem w_heights_of_eq : w_heights_of = wDef 1 3
  (wSeq (wAsg (wLst true (waCons (wC (.int 0)) waNil)) (wgName 1))
  (wSeq (wFor (wiAny (wVar 0)) (wgName 2) (wDrop (wBL dApp (wVar 1) (waCons (wOp (dAdd false) (wOp dIx (wVar 1) (wUn dNeg (wC (.int 1)))) (wVar 2)) waNil))) [0, 2])
  (wRet (wDp [1] (wCB (b1 dTuple) (waCons (wVar 1) waNil)))))) := by
  unfold w_heights_of
  exact Classical.choose_spec wx_heights_of
theorem wx_are_integers : ∃ w : WF, w = wDef 1 2
  (wRet (wAndT (wIsi2 "list" "tuple" (wVar 0)) (wCB (b1 dAll) (waCons (wLc false (wiAny (wVar 0)) (wgName 1) wYes (wFn 1 0 w_is_integer (wcP (waCons (wVar 1) waNil))) [1]) waNil)))) := ⟨_, rfl⟩
@[irreducible] noncomputable def w_are_integers : WF := Classical.choose wx_are_integers
theorem w_are_integers_eq : w_are_integers = wDef 1 2
  (wRet (wAndT (wIsi2 "list" "tuple" (wVar 0)) (wCB (b1 dAll) (waCons (wLc false (wiAny (wVar 0)) (wgName 1) wYes (wFn 1 0 w_is_integer (wcP (waCons (wVar 1) waNil))) [1]) waNil)))) := by
  unfold w_are_integers
  exact Classical.choose_spec wx_are_integers
theorem wx_Row_init : ∃ w : WF, w = wDef 2 2
  (wSeq (wIfS (wOr (wNot (wTru (wFn 1 0 w_are_integers (wcP (waCons (wVar 1) waNil))))) (wTest (wOp dEq (wCB (b1 dLen) (waCons (wVar 1) waNil)) (wC (.int 0))))) wNever wNext)
  (wKill [] (wSeq (wIfS (wTest (wOp dGt (wCB (b1 dLen) (waCons (wVar 1) waNil)) (wC (.int (48))))) wNever wNext)
  (wKill [] (wSeq (wSetF ["Row"] "gains" (wVar 0) (wCB (b1 dTuple) (waCons (wVar 1) waNil)))
  (wSeq (wSetF ["Row"] "heights" (wVar 0) (wFn 1 0 w_heights_of (wcP (waCons (wVar 1) waNil))))
  (wSeq (wSetF ["Row"] "days" (wVar 0) (wCB (b1 dLen) (waCons (wVar 1) waNil)))
  (wSetF ["Row"] "total" (wVar 0) (wOp dIx (wFld "heights" (wVar 0)) (wUn dNeg (wC (.int 1)))))))))))) := ⟨_, rfl⟩
@[irreducible] noncomputable def w_Row_init : WF := Classical.choose wx_Row_init
theorem w_Row_init_eq : w_Row_init = wDef 2 2
  (wSeq (wIfS (wOr (wNot (wTru (wFn 1 0 w_are_integers (wcP (waCons (wVar 1) waNil))))) (wTest (wOp dEq (wCB (b1 dLen) (waCons (wVar 1) waNil)) (wC (.int 0))))) wNever wNext)
  (wKill [] (wSeq (wIfS (wTest (wOp dGt (wCB (b1 dLen) (waCons (wVar 1) waNil)) (wC (.int (48))))) wNever wNext)
  (wKill [] (wSeq (wSetF ["Row"] "gains" (wVar 0) (wCB (b1 dTuple) (waCons (wVar 1) waNil)))
  (wSeq (wSetF ["Row"] "heights" (wVar 0) (wFn 1 0 w_heights_of (wcP (waCons (wVar 1) waNil))))
  (wSeq (wSetF ["Row"] "days" (wVar 0) (wCB (b1 dLen) (waCons (wVar 1) waNil)))
  (wSetF ["Row"] "total" (wVar 0) (wOp dIx (wFld "heights" (wVar 0)) (wUn dNeg (wC (.int 1)))))))))))) := by
  unfold w_Row_init
  exact Classical.choose_spec wx_Row_init
theorem wx_Row_joined : ∃ w : WF, w = wDef 2 2
  (wSeq (wDrop (wFn 2 0 w_need_row (wcP (waCons (wVar 1) (waCons (wC (.str "other")) waNil)))))
  (wRet (wNew false "Row" 1 0 w_Row_init (wcP (waCons (wLst false (waStar (wFld "gains" (wVar 0)) (waStar (wFld "gains" (wVar 1)) waNil))) waNil))))) := ⟨_, rfl⟩
@[irreducible] noncomputable def w_Row_joined : WF := Classical.choose wx_Row_joined
theorem w_Row_joined_eq : w_Row_joined = wDef 2 2
  (wSeq (wDrop (wFn 2 0 w_need_row (wcP (waCons (wVar 1) (waCons (wC (.str "other")) waNil)))))
  (wRet (wNew false "Row" 1 0 w_Row_init (wcP (waCons (wLst false (waStar (wFld "gains" (wVar 0)) (waStar (wFld "gains" (wVar 1)) waNil))) waNil))))) := by
  unfold w_Row_joined
  exact Classical.choose_spec wx_Row_joined
theorem wx_Row_len : ∃ w : WF, w = wDef 1 1
  (wRet (wCB (b1 dLen) (waCons (wFld "gains" (wVar 0)) waNil))) := ⟨_, rfl⟩
@[irreducible] noncomputable def w_Row_len : WF := Classical.choose wx_Row_len
theorem w_Row_len_eq : w_Row_len = wDef 1 1
  (wRet (wCB (b1 dLen) (waCons (wFld "gains" (wVar 0)) waNil))) := by
  unfold w_Row_len
  exact Classical.choose_spec wx_Row_len
theorem wx_law_twice_right : ∃ w : WF, w = wDef 1 6
  (wSeq (wPar3 1 2 3 (waCons (wNew false "Row" 1 0 w_Row_init (wcP (waCons (wVar 0) waNil))) (waCons (wCB (b1 (dLenO "Row" w_Row_len dLen)) (waCons (wVar 0) waNil)) (waCons (wCB (b1 dSum) (waCons (wVar 0) waNil)) waNil))))
  (wSeq (wAsg (wMt "Row" "joined" 1 0 w_Row_joined (wVar 1) (wcP (waCons (wVar 1) waNil))) (wgName 4))
  (wSeq (wIfS (wTest (wOp (dNeO "Row" ["Row"] w_Row_eq dNe) (wFn 2 0 w_sums (wcP (waCons (wVar 4) (waCons (wVar 2) waNil)))) (wOp (dMulT false) (wTup (waCons (wVar 3) waNil)) (wOp (dAdd false) (wVar 2) (wC (.int 1)))))) (wRet (wC (.bl false))) wNext)
  (wKill [0, 1, 5] (wSeq (wIfS (wOr (wTest (wOp (dNeO "Row" ["Row"] w_Row_eq dNe) (wFn 2 0 w_sort_of (wcP (waCons (wVar 4) (waCons (wVar 2) waNil)))) (wIf (wTest (wOp dGt (wVar 3) (wC (.int 0)))) (wC (.str "gains")) (wIf (wTest (wOp dLt (wVar 3) (wC (.int 0)))) (wC (.str "loses")) (wC (.str "flat")))))) (wTest (wOp (dNeO "Row" ["Row"] w_Row_eq dNe) (wFn 2 0 w_sort_of (wcP (waCons (wVar 4) (waCons (wOp (dMulT false) (wC (.int 2)) (wVar 2)) waNil)))) (wFn 2 0 w_sort_of (wcP (waCons (wVar 4) (waCons (wVar 2) waNil))))))) (wRet (wC (.bl false))) wNext)
  (wKill [0, 1, 5] (wRet (wOrT (wOp (dNeO "Row" ["Row"] w_Row_eq dNe) (wVar 3) (wC (.int 0))) (wOp (dEqO "Row" ["Row"] w_Row_eq dEq) (wLc false (wiAny (wSl false (wFn 1 0 w_table_words (wcP (waCons (wVar 4) waNil))) woNone (woSome (wVar 2)))) (wgName 5) (wTest (wOp dIn (wVar 5) (wTup (waCons (wC (.str "gains")) (waCons (wC (.str "loses")) waNil))))) (wVar 5) [5]) (wLst false waNil)))))))))) := ⟨_, rfl⟩
@[irreducible] noncomputable def w_law_twice_right : WF := Classical.choose wx_law_twice_right
theorem w_law_twice_right_eq : w_law_twice_right = wDef 1 6
  (wSeq (wPar3 1 2 3 (waCons (wNew false "Row" 1 0 w_Row_init (wcP (waCons (wVar 0) waNil))) (waCons (wCB (b1 (dLenO "Row" w_Row_len dLen)) (waCons (wVar 0) waNil)) (waCons (wCB (b1 dSum) (waCons (wVar 0) waNil)) waNil))))
  (wSeq (wAsg (wMt "Row" "joined" 1 0 w_Row_joined (wVar 1) (wcP (waCons (wVar 1) waNil))) (wgName 4))
  (wSeq (wIfS (wTest (wOp (dNeO "Row" ["Row"] w_Row_eq dNe) (wFn 2 0 w_sums (wcP (waCons (wVar 4) (waCons (wVar 2) waNil)))) (wOp (dMulT false) (wTup (waCons (wVar 3) waNil)) (wOp (dAdd false) (wVar 2) (wC (.int 1)))))) (wRet (wC (.bl false))) wNext)
  (wKill [0, 1, 5] (wSeq (wIfS (wOr (wTest (wOp (dNeO "Row" ["Row"] w_Row_eq dNe) (wFn 2 0 w_sort_of (wcP (waCons (wVar 4) (waCons (wVar 2) waNil)))) (wIf (wTest (wOp dGt (wVar 3) (wC (.int 0)))) (wC (.str "gains")) (wIf (wTest (wOp dLt (wVar 3) (wC (.int 0)))) (wC (.str "loses")) (wC (.str "flat")))))) (wTest (wOp (dNeO "Row" ["Row"] w_Row_eq dNe) (wFn 2 0 w_sort_of (wcP (waCons (wVar 4) (waCons (wOp (dMulT false) (wC (.int 2)) (wVar 2)) waNil)))) (wFn 2 0 w_sort_of (wcP (waCons (wVar 4) (waCons (wVar 2) waNil))))))) (wRet (wC (.bl false))) wNext)
  (wKill [0, 1, 5] (wRet (wOrT (wOp (dNeO "Row" ["Row"] w_Row_eq dNe) (wVar 3) (wC (.int 0))) (wOp (dEqO "Row" ["Row"] w_Row_eq dEq) (wLc false (wiAny (wSl false (wFn 1 0 w_table_words (wcP (waCons (wVar 4) waNil))) woNone (woSome (wVar 2)))) (wgName 5) (wTest (wOp dIn (wVar 5) (wTup (waCons (wC (.str "gains")) (waCons (wC (.str "loses")) waNil))))) (wVar 5) [5]) (wLst false waNil)))))))))) := by
  unfold w_law_twice_right
  exact Classical.choose_spec wx_law_twice_right
theorem wx_law_word : ∃ w : WF, w = wDef 1 4
  (wSeq (wPar 1 2 (waCons (wCB (b1 (dLenO "Row" w_Row_len dLen)) (waCons (wLc false (wiAny (wVar 0)) (wgName 3) (wTest (wOp dGt (wVar 3) (wC (.int 0)))) (wVar 3) [3]) waNil)) (waCons (wCB (b1 (dLenO "Row" w_Row_len dLen)) (waCons (wLc false (wiAny (wVar 0)) (wgName 3) (wTest (wOp dLt (wVar 3) (wC (.int 0)))) (wVar 3) [3]) waNil)) waNil)))
  (wSeq (wIfS (wTest (wOp (dEqO "Row" ["Row"] w_Row_eq dEq) (wVar 1) (wCB (b1 (dLenO "Row" w_Row_len dLen)) (waCons (wVar 0) waNil)))) (wRet (wC (.str "gains"))) wNext)
  (wKill [3] (wSeq (wIfS (wTest (wOp (dEqO "Row" ["Row"] w_Row_eq dEq) (wVar 2) (wCB (b1 (dLenO "Row" w_Row_len dLen)) (waCons (wVar 0) waNil)))) (wRet (wC (.str "loses"))) wNext)
  (wKill [0, 3] (wRet (wIf (wTest (wOp (dEqO "Row" ["Row"] w_Row_eq dEq) (wOp (dAdd false) (wVar 1) (wVar 2)) (wC (.int 0)))) (wC (.str "flat")) (wC (.str "mixed"))))))))) := ⟨_, rfl⟩
@[irreducible] noncomputable def w_law_word : WF := Classical.choose wx_law_word
theorem w_law_word_eq : w_law_word = wDef 1 4
  (wSeq (wPar 1 2 (waCons (wCB (b1 (dLenO "Row" w_Row_len dLen)) (waCons (wLc false (wiAny (wVar 0)) (wgName 3) (wTest (wOp dGt (wVar 3) (wC (.int 0)))) (wVar 3) [3]) waNil)) (waCons (wCB (b1 (dLenO "Row" w_Row_len dLen)) (waCons (wLc false (wiAny (wVar 0)) (wgName 3) (wTest (wOp dLt (wVar 3) (wC (.int 0)))) (wVar 3) [3]) waNil)) waNil)))
  (wSeq (wIfS (wTest (wOp (dEqO "Row" ["Row"] w_Row_eq dEq) (wVar 1) (wCB (b1 (dLenO "Row" w_Row_len dLen)) (waCons (wVar 0) waNil)))) (wRet (wC (.str "gains"))) wNext)
  (wKill [3] (wSeq (wIfS (wTest (wOp (dEqO "Row" ["Row"] w_Row_eq dEq) (wVar 2) (wCB (b1 (dLenO "Row" w_Row_len dLen)) (waCons (wVar 0) waNil)))) (wRet (wC (.str "loses"))) wNext)
  (wKill [0, 3] (wRet (wIf (wTest (wOp (dEqO "Row" ["Row"] w_Row_eq dEq) (wOp (dAdd false) (wVar 1) (wVar 2)) (wC (.int 0)))) (wC (.str "flat")) (wC (.str "mixed"))))))))) := by
  unfold w_law_word
  exact Classical.choose_spec wx_law_word
theorem wx_law_sums : ∃ w : WF, w = wDef 2 3
  (wRet (wLc false (wiR1 (waCons (wOp (dAdd false) (wOp dSub (wCB (b1 (dLenO "Row" w_Row_len dLen)) (waCons (wVar 0) waNil)) (wVar 1)) (wC (.int 1))) waNil)) (wgName 2) wYes (wCB (b1 dSum) (waCons (wSl false (wVar 0) (woSome (wVar 2)) (woSome (wOp (dAdd false) (wVar 2) (wVar 1)))) waNil)) [2])) := ⟨_, rfl⟩
@[irreducible] noncomputable def w_law_sums : WF := Classical.choose wx_law_sums
theorem w_law_sums_eq : w_law_sums = wDef 2 3
  (wRet (wLc false (wiR1 (waCons (wOp (dAdd false) (wOp dSub (wCB (b1 (dLenO "Row" w_Row_len dLen)) (waCons (wVar 0) waNil)) (wVar 1)) (wC (.int 1))) waNil)) (wgName 2) wYes (wCB (b1 dSum) (waCons (wSl false (wVar 0) (woSome (wVar 2)) (woSome (wOp (dAdd false) (wVar 2) (wVar 1)))) waNil)) [2])) := by
  unfold w_law_sums
  exact Classical.choose_spec wx_law_sums
theorem wx_law_words : ∃ w : WF, w = wDef 1 2
  (wRet (wLc false (wiR2 (waCons (wC (.int 1)) (waCons (wOp (dAdd false) (wCB (b1 (dLenO "Row" w_Row_len dLen)) (waCons (wVar 0) waNil)) (wC (.int 1))) waNil))) (wgName 1) wYes (wFn 1 0 w_law_word (wcP (waCons (wFn 2 0 w_law_sums (wcP (waCons (wVar 0) (waCons (wVar 1) waNil)))) waNil))) [1])) := ⟨_, rfl⟩
@[irreducible] noncomputable def w_law_words : WF := Classical.choose wx_law_words
theorem w_law_words_eq : w_law_words = wDef 1 2
  (wRet (wLc false (wiR2 (waCons (wC (.int 1)) (waCons (wOp (dAdd false) (wCB (b1 (dLenO "Row" w_Row_len dLen)) (waCons (wVar 0) waNil)) (wC (.int 1))) waNil))) (wgName 1) wYes (wFn 1 0 w_law_word (wcP (waCons (wFn 2 0 w_law_sums (wcP (waCons (wVar 0) (waCons (wVar 1) waNil)))) waNil))) [1])) := by
  unfold w_law_words
  exact Classical.choose_spec wx_law_words
theorem wx_law_joined_right : ∃ w : WF, w = wDef 2 8
  (wSeq (wPar 2 3 (waCons (wOp (dAdd false) (wVar 0) (wVar 1)) (waCons (wMt "Row" "joined" 1 0 w_Row_joined (wNew false "Row" 1 0 w_Row_init (wcP (waCons (wVar 0) waNil))) (wcP (waCons (wNew false "Row" 1 0 w_Row_init (wcP (waCons (wVar 1) waNil))) waNil))) waNil)))
  (wSeq (wAsg (wFn 1 0 w_table_words (wcP (waCons (wVar 3) waNil))) (wgName 4))
  (wSeq (wIfS (wTest (wOp (dNeO "Row" ["Row"] w_Row_eq dNe) (wCB (b1 (dList false)) (waCons (wVar 4) waNil)) (wFn 1 0 w_law_words (wcP (waCons (wVar 2) waNil))))) (wRet (wC (.bl false))) wNext)
  (wKill [2, 3, 5, 6, 7] (wSeq (wFor (wiAny (wTup (waCons (wFn 1 0 w_table_words (wcP (waCons (wNew false "Row" 1 0 w_Row_init (wcP (waCons (wVar 0) waNil))) waNil))) (waCons (wFn 1 0 w_table_words (wcP (waCons (wNew false "Row" 1 0 w_Row_init (wcP (waCons (wVar 1) waNil))) waNil))) waNil)))) (wgName 5) (wIfS (wTest (wOp (dNeO "Row" ["Row"] w_Row_eq dNe) (wLc false (wiEnumT (waCons (wVar 5) waNil)) (wgTup 2 (wgCons (wgName 6) (wgCons (wgName 7) wgNil))) (wAnd (wTest (wOp (dNeO "Row" ["Row"] w_Row_eq dNe) (wOp dIx (wVar 4) (wVar 6)) (wC (.str "mixed")))) (wTest (wOp (dNeO "Row" ["Row"] w_Row_eq dNe) (wVar 7) (wOp dIx (wVar 4) (wVar 6))))) (wVar 6) [6, 7]) (wLst false waNil))) (wRet (wC (.bl false))) wNext) [0, 1, 2, 3, 5, 6, 7])
  (wRet (wC (.bl true)))))))) := ⟨_, rfl⟩
@[irreducible] noncomputable def w_law_joined_right : WF := Classical.choose wx_law_joined_right
theorem w_law_joined_right_eq : w_law_joined_right = wDef 2 8
  (wSeq (wPar 2 3 (waCons (wOp (dAdd false) (wVar 0) (wVar 1)) (waCons (wMt "Row" "joined" 1 0 w_Row_joined (wNew false "Row" 1 0 w_Row_init (wcP (waCons (wVar 0) waNil))) (wcP (waCons (wNew false "Row" 1 0 w_Row_init (wcP (waCons (wVar 1) waNil))) waNil))) waNil)))
  (wSeq (wAsg (wFn 1 0 w_table_words (wcP (waCons (wVar 3) waNil))) (wgName 4))
  (wSeq (wIfS (wTest (wOp (dNeO "Row" ["Row"] w_Row_eq dNe) (wCB (b1 (dList false)) (waCons (wVar 4) waNil)) (wFn 1 0 w_law_words (wcP (waCons (wVar 2) waNil))))) (wRet (wC (.bl false))) wNext)
  (wKill [2, 3, 5, 6, 7] (wSeq (wFor (wiAny (wTup (waCons (wFn 1 0 w_table_words (wcP (waCons (wNew false "Row" 1 0 w_Row_init (wcP (waCons (wVar 0) waNil))) waNil))) (waCons (wFn 1 0 w_table_words (wcP (waCons (wNew false "Row" 1 0 w_Row_init (wcP (waCons (wVar 1) waNil))) waNil))) waNil)))) (wgName 5) (wIfS (wTest (wOp (dNeO "Row" ["Row"] w_Row_eq dNe) (wLc false (wiEnumT (waCons (wVar 5) waNil)) (wgTup 2 (wgCons (wgName 6) (wgCons (wgName 7) wgNil))) (wAnd (wTest (wOp (dNeO "Row" ["Row"] w_Row_eq dNe) (wOp dIx (wVar 4) (wVar 6)) (wC (.str "mixed")))) (wTest (wOp (dNeO "Row" ["Row"] w_Row_eq dNe) (wVar 7) (wOp dIx (wVar 4) (wVar 6))))) (wVar 6) [6, 7]) (wLst false waNil))) (wRet (wC (.bl false))) wNext) [0, 1, 2, 3, 5, 6, 7])
  (wRet (wC (.bl true)))))))) := by
  unfold w_law_joined_right
  exact Classical.choose_spec wx_law_joined_right
theorem wx_Row_added : ∃ w : WF, w = wDef 2 4
  (wSeq (wDrop (wFn 2 0 w_need_row (wcP (waCons (wVar 1) (waCons (wC (.str "other")) waNil)))))
  (wSeq (wIfS (wTest (wOp dNe (wFld "days" (wVar 1)) (wFld "days" (wVar 0)))) wNever wNext)
  (wKill [2, 3] (wRet (wNew false "Row" 1 0 w_Row_init (wcP (waCons (wLc false (wiZip (waCons (wFld "gains" (wVar 0)) (waCons (wFld "gains" (wVar 1)) waNil))) (wgTup 2 (wgCons (wgName 2) (wgCons (wgName 3) wgNil))) wYes (wOp (dAdd false) (wVar 2) (wVar 3)) [2, 3]) waNil))))))) := ⟨_, rfl⟩
@[irreducible] noncomputable def w_Row_added : WF := Classical.choose wx_Row_added
theorem w_Row_added_eq : w_Row_added = wDef 2 4
  (wSeq (wDrop (wFn 2 0 w_need_row (wcP (waCons (wVar 1) (waCons (wC (.str "other")) waNil)))))
  (wSeq (wIfS (wTest (wOp dNe (wFld "days" (wVar 1)) (wFld "days" (wVar 0)))) wNever wNext)
  (wKill [2, 3] (wRet (wNew false "Row" 1 0 w_Row_init (wcP (waCons (wLc false (wiZip (waCons (wFld "gains" (wVar 0)) (waCons (wFld "gains" (wVar 1)) waNil))) (wgTup 2 (wgCons (wgName 2) (wgCons (wgName 3) wgNil))) wYes (wOp (dAdd false) (wVar 2) (wVar 3)) [2, 3]) waNil))))))) := by
  unfold w_Row_added
  exact Classical.choose_spec wx_Row_added
theorem wx_law_added_right : ∃ w : WF, w = wDef 2 11
  (wSeq (wPar3 2 3 4 (waCons (wMt "Row" "added" 1 0 w_Row_added (wNew false "Row" 1 0 w_Row_init (wcP (waCons (wVar 0) waNil))) (wcP (waCons (wNew false "Row" 1 0 w_Row_init (wcP (waCons (wVar 1) waNil))) waNil))) (waCons (wFn 1 0 w_law_words (wcP (waCons (wVar 0) waNil))) (waCons (wFn 1 0 w_law_words (wcP (waCons (wVar 1) waNil))) waNil))))
  (wSeq (wAsg (wFn 1 0 w_table_words (wcP (waCons (wVar 2) waNil))) (wgName 5))
  (wSeq (wIfS (wTest (wOp (dNeO "Row" ["Row"] w_Row_eq dNe) (wCB (b1 (dList false)) (waCons (wVar 5) waNil)) (wFn 1 0 w_law_words (wcP (waCons (wLc false (wiZip (waCons (wVar 0) (waCons (wVar 1) waNil))) (wgTup 2 (wgCons (wgName 9) (wgCons (wgName 10) wgNil))) wYes (wOp (dAdd false) (wVar 9) (wVar 10)) [9, 10]) waNil))))) (wRet (wC (.bl false))) wNext)
  (wKill [0, 1, 2, 6, 7, 8, 9, 10] (wSeq (wFor (wiEnumT (waCons (wVar 5) waNil)) (wgTup 2 (wgCons (wgName 6) (wgCons (wgName 7) wgNil))) (wSeq (wAsg (wLst false (waCons (wOp dIx (wVar 3) (wVar 6)) (waCons (wOp dIx (wVar 4) (wVar 6)) waNil))) (wgName 8))
  (wSeq (wIfS (wAnd (wTest (wOp (dEqO "Row" ["Row"] w_Row_eq dEq) (wOp dIx (wVar 8) (wC (.int 0))) (wOp dIx (wVar 8) (wC (.int 1))))) (wAnd (wTest (wOp (dNeO "Row" ["Row"] w_Row_eq dNe) (wOp dIx (wVar 8) (wC (.int 0))) (wC (.str "mixed")))) (wTest (wOp (dNeO "Row" ["Row"] w_Row_eq dNe) (wVar 7) (wOp dIx (wVar 8) (wC (.int 0))))))) (wRet (wC (.bl false))) wNext)
  (wKill [0, 1, 2, 5, 6, 9, 10] (wIfS (wAnd (wTest (wOp dIn (wC (.str "flat")) (wVar 8))) (wTest (wOp (dNeO "Row" ["Row"] w_Row_eq dNe) (wVar 7) (wOp dIx (wVar 8) (wOp dSub (wC (.int 1)) (wBL dIdxS (wVar 8) (waCons (wC (.str "flat")) waNil))))))) (wRet (wC (.bl false))) wNext)))) [0, 1, 2, 5, 6, 7, 8, 9, 10])
  (wRet (wC (.bl true)))))))) := ⟨_, rfl⟩
@[irreducible] noncomputable def w_law_added_right : WF := Classical.choose wx_law_added_right
theorem w_law_added_right_eq : w_law_added_right = wDef 2 11
  (wSeq (wPar3 2 3 4 (waCons (wMt "Row" "added" 1 0 w_Row_added (wNew false "Row" 1 0 w_Row_init (wcP (waCons (wVar 0) waNil))) (wcP (waCons (wNew false "Row" 1 0 w_Row_init (wcP (waCons (wVar 1) waNil))) waNil))) (waCons (wFn 1 0 w_law_words (wcP (waCons (wVar 0) waNil))) (waCons (wFn 1 0 w_law_words (wcP (waCons (wVar 1) waNil))) waNil))))
  (wSeq (wAsg (wFn 1 0 w_table_words (wcP (waCons (wVar 2) waNil))) (wgName 5))
  (wSeq (wIfS (wTest (wOp (dNeO "Row" ["Row"] w_Row_eq dNe) (wCB (b1 (dList false)) (waCons (wVar 5) waNil)) (wFn 1 0 w_law_words (wcP (waCons (wLc false (wiZip (waCons (wVar 0) (waCons (wVar 1) waNil))) (wgTup 2 (wgCons (wgName 9) (wgCons (wgName 10) wgNil))) wYes (wOp (dAdd false) (wVar 9) (wVar 10)) [9, 10]) waNil))))) (wRet (wC (.bl false))) wNext)
  (wKill [0, 1, 2, 6, 7, 8, 9, 10] (wSeq (wFor (wiEnumT (waCons (wVar 5) waNil)) (wgTup 2 (wgCons (wgName 6) (wgCons (wgName 7) wgNil))) (wSeq (wAsg (wLst false (waCons (wOp dIx (wVar 3) (wVar 6)) (waCons (wOp dIx (wVar 4) (wVar 6)) waNil))) (wgName 8))
  (wSeq (wIfS (wAnd (wTest (wOp (dEqO "Row" ["Row"] w_Row_eq dEq) (wOp dIx (wVar 8) (wC (.int 0))) (wOp dIx (wVar 8) (wC (.int 1))))) (wAnd (wTest (wOp (dNeO "Row" ["Row"] w_Row_eq dNe) (wOp dIx (wVar 8) (wC (.int 0))) (wC (.str "mixed")))) (wTest (wOp (dNeO "Row" ["Row"] w_Row_eq dNe) (wVar 7) (wOp dIx (wVar 8) (wC (.int 0))))))) (wRet (wC (.bl false))) wNext)
  (wKill [0, 1, 2, 5, 6, 9, 10] (wIfS (wAnd (wTest (wOp dIn (wC (.str "flat")) (wVar 8))) (wTest (wOp (dNeO "Row" ["Row"] w_Row_eq dNe) (wVar 7) (wOp dIx (wVar 8) (wOp dSub (wC (.int 1)) (wBL dIdxS (wVar 8) (waCons (wC (.str "flat")) waNil))))))) (wRet (wC (.bl false))) wNext)))) [0, 1, 2, 5, 6, 7, 8, 9, 10])
  (wRet (wC (.bl true)))))))) := by
  unfold w_law_added_right
  exact Classical.choose_spec wx_law_added_right
theorem wx_Row_plus : ∃ w : WF, w = wDef 2 3
  (wSeq (wDrop (wFn 4 0 w_need_number (wcP (waCons (wVar 1) (waCons (wC (.str "number")) (waCons (wC .non) (waCons (wC .non) waNil)))))))
  (wRet (wNew false "Row" 1 0 w_Row_init (wcP (waCons (wLc false (wiAny (wFld "gains" (wVar 0))) (wgName 2) wYes (wOp (dAdd false) (wVar 2) (wVar 1)) [2]) waNil))))) := ⟨_, rfl⟩
@[irreducible] noncomputable def w_Row_plus : WF := Classical.choose wx_Row_plus
theorem w_Row_plus_eq : w_Row_plus = wDef 2 3
  (wSeq (wDrop (wFn 4 0 w_need_number (wcP (waCons (wVar 1) (waCons (wC (.str "number")) (waCons (wC .non) (waCons (wC .non) waNil)))))))
  (wRet (wNew false "Row" 1 0 w_Row_init (wcP (waCons (wLc false (wiAny (wFld "gains" (wVar 0))) (wgName 2) wYes (wOp (dAdd false) (wVar 2) (wVar 1)) [2]) waNil))))) := by
  unfold w_Row_plus
  exact Classical.choose_spec wx_Row_plus
theorem wx_law_drip : ∃ w : WF, w = wDef 2 7
  (wSeq (wIfS (wTest (wOp dGt (wOp dIx (wVar 0) (wC (.int 2))) (wC (.int 0)))) (wSeq (wAsg (wOp dMd (wCB (b1 dInt) (waCons (wOp dIx (wVar 0) (wC (.int 2))) waNil)) (wVar 1)) (wgName 2))
  (wSeq (wAsg (wOp dFd (wCB (b1 dInt) (waCons (wOp dIx (wVar 0) (wC (.int 2))) waNil)) (wVar 1)) (wgSub (wVar 0) (wC (.int 2))))
  (wRet (wVar 2)))) wNext)
  (wKill [2, 3, 4, 5, 6] (wSeq (wAsg (wOp dIx (wVar 0) (wC (.int 1))) (wgName 3))
  (wSeq (wAsg (wOp (dAdd false) (wVar 3) (wC (.int 1))) (wgSub (wVar 0) (wC (.int 1))))
  (wSeq (wAsg (wOp (dAdd false) (wOp (dMulT false) (wC (.int 63079)) (wVar 3)) (wC (.int 8179))) (wgName 4))
  (wSeq (wIfS (wTest (wOp (dNeO "Row" ["Row"] w_Row_eq dNe) (wOp dIx (wVar 0) (wC (.int 0))) (wLst false waNil))) (wAsg (wOp dIx (wOp dIx (wVar 0) (wC (.int 0))) (wOp dMd (wCB (b1 dInt) (waCons (wVar 3) waNil)) (wCB (b1 (dLenO "Row" w_Row_len dLen)) (waCons (wOp dIx (wVar 0) (wC (.int 0))) waNil)))) (wgName 4)) wNext)
  (wKill [2, 5, 6] (wSeq (wIfS (wAnd (wTest (wOp dLt (wVar 3) (wCB (b1 (dLenO "Row" w_Row_len dLen)) (waCons (wOp dIx (wVar 0) (wC (.int 0))) waNil)))) (wTest (wOp dGe (wCB (b1 dAbs) (waCons (wVar 4) waNil)) (wOp dPw (wC (.int 10)) (wC (.int 18)))))) (wSeq (wAsg (wOp (dAdd false) (wOp (dMulT false) (wC (.int 2)) (wOp dSub (wCB (b1 dAbs) (waCons (wVar 4) waNil)) (wOp dPw (wC (.int 10)) (wC (.int 18))))) (wCB (b1 dInt) (waCons (wOp dLt (wVar 4) (wC (.int 0))) waNil))) (wgName 5))
  (wSeq (wAsg (wOp dFd (wCB (b1 dInt) (waCons (wVar 5) waNil)) (wVar 1)) (wgSub (wVar 0) (wC (.int 2))))
  (wRet (wOp dMd (wCB (b1 dInt) (waCons (wVar 5) waNil)) (wVar 1))))) wNext)
  (wKill [2, 5, 6] (wSeq (wAsg (wOp dMd (wCB (b1 dInt) (waCons (wOp dPw (wOp (dAdd false) (wOp (dAdd false) (wOp dMd (wCB (b1 dInt) (waCons (wVar 4) waNil)) (wC (.int 2147483563))) (wOp (dMulT false) (wC (.int 74561)) (wVar 3))) (wC (.int 8179))) (wC (.int 5))) waNil)) (wC (.int 2147483629))) (wgName 6))
  (wSeq (wAsg (wOp dMd (wCB (b1 dInt) (waCons (wOp dPw (wOp (dAdd false) (wOp (dAdd false) (wOp (dMulT false) (wVar 6) (wOp (dAdd false) (wOp (dMulT false) (wC (.int 2)) (wVar 3)) (wC (.int 2459)))) (wOp (dMulT false) (wOp (dMulT false) (wC (.int 63079)) (wVar 3)) (wVar 3))) (wC (.int 93703))) (wC (.int 3))) waNil)) (wC (.int 2147483549))) (wgName 6))
  (wRet (wOp dMd (wCB (b1 dInt) (waCons (wOp dFd (wVar 6) (wC (.int 64))) waNil)) (wVar 1)))))))))))))) := ⟨_, rfl⟩
@[irreducible] noncomputable def w_law_drip : WF := Classical.choose wx_law_drip
theorem w_law_drip_eq : w_law_drip = wDef 2 7
  (wSeq (wIfS (wTest (wOp dGt (wOp dIx (wVar 0) (wC (.int 2))) (wC (.int 0)))) (wSeq (wAsg (wOp dMd (wCB (b1 dInt) (waCons (wOp dIx (wVar 0) (wC (.int 2))) waNil)) (wVar 1)) (wgName 2))
  (wSeq (wAsg (wOp dFd (wCB (b1 dInt) (waCons (wOp dIx (wVar 0) (wC (.int 2))) waNil)) (wVar 1)) (wgSub (wVar 0) (wC (.int 2))))
  (wRet (wVar 2)))) wNext)
  (wKill [2, 3, 4, 5, 6] (wSeq (wAsg (wOp dIx (wVar 0) (wC (.int 1))) (wgName 3))
  (wSeq (wAsg (wOp (dAdd false) (wVar 3) (wC (.int 1))) (wgSub (wVar 0) (wC (.int 1))))
  (wSeq (wAsg (wOp (dAdd false) (wOp (dMulT false) (wC (.int 63079)) (wVar 3)) (wC (.int 8179))) (wgName 4))
  (wSeq (wIfS (wTest (wOp (dNeO "Row" ["Row"] w_Row_eq dNe) (wOp dIx (wVar 0) (wC (.int 0))) (wLst false waNil))) (wAsg (wOp dIx (wOp dIx (wVar 0) (wC (.int 0))) (wOp dMd (wCB (b1 dInt) (waCons (wVar 3) waNil)) (wCB (b1 (dLenO "Row" w_Row_len dLen)) (waCons (wOp dIx (wVar 0) (wC (.int 0))) waNil)))) (wgName 4)) wNext)
  (wKill [2, 5, 6] (wSeq (wIfS (wAnd (wTest (wOp dLt (wVar 3) (wCB (b1 (dLenO "Row" w_Row_len dLen)) (waCons (wOp dIx (wVar 0) (wC (.int 0))) waNil)))) (wTest (wOp dGe (wCB (b1 dAbs) (waCons (wVar 4) waNil)) (wOp dPw (wC (.int 10)) (wC (.int 18)))))) (wSeq (wAsg (wOp (dAdd false) (wOp (dMulT false) (wC (.int 2)) (wOp dSub (wCB (b1 dAbs) (waCons (wVar 4) waNil)) (wOp dPw (wC (.int 10)) (wC (.int 18))))) (wCB (b1 dInt) (waCons (wOp dLt (wVar 4) (wC (.int 0))) waNil))) (wgName 5))
  (wSeq (wAsg (wOp dFd (wCB (b1 dInt) (waCons (wVar 5) waNil)) (wVar 1)) (wgSub (wVar 0) (wC (.int 2))))
  (wRet (wOp dMd (wCB (b1 dInt) (waCons (wVar 5) waNil)) (wVar 1))))) wNext)
  (wKill [2, 5, 6] (wSeq (wAsg (wOp dMd (wCB (b1 dInt) (waCons (wOp dPw (wOp (dAdd false) (wOp (dAdd false) (wOp dMd (wCB (b1 dInt) (waCons (wVar 4) waNil)) (wC (.int 2147483563))) (wOp (dMulT false) (wC (.int 74561)) (wVar 3))) (wC (.int 8179))) (wC (.int 5))) waNil)) (wC (.int 2147483629))) (wgName 6))
  (wSeq (wAsg (wOp dMd (wCB (b1 dInt) (waCons (wOp dPw (wOp (dAdd false) (wOp (dAdd false) (wOp (dMulT false) (wVar 6) (wOp (dAdd false) (wOp (dMulT false) (wC (.int 2)) (wVar 3)) (wC (.int 2459)))) (wOp (dMulT false) (wOp (dMulT false) (wC (.int 63079)) (wVar 3)) (wVar 3))) (wC (.int 93703))) (wC (.int 3))) waNil)) (wC (.int 2147483549))) (wgName 6))
  (wRet (wOp dMd (wCB (b1 dInt) (waCons (wOp dFd (wVar 6) (wC (.int 64))) waNil)) (wVar 1)))))))))))))) := by
  unfold w_law_drip
  exact Classical.choose_spec wx_law_drip
theorem wx_law_any : ∃ w : WF, w = wDef 2 2
  (wRet (wOp dIx (wVar 1) (wFn 2 0 w_law_drip (wcP (waCons (wVar 0) (waCons (wCB (b1 (dLenO "Row" w_Row_len dLen)) (waCons (wVar 1) waNil)) waNil)))))) := ⟨_, rfl⟩
@[irreducible] noncomputable def w_law_any : WF := Classical.choose wx_law_any
theorem w_law_any_eq : w_law_any = wDef 2 2
  (wRet (wOp dIx (wVar 1) (wFn 2 0 w_law_drip (wcP (waCons (wVar 0) (waCons (wCB (b1 (dLenO "Row" w_Row_len dLen)) (waCons (wVar 1) waNil)) waNil)))))) := by
  unfold w_law_any
  exact Classical.choose_spec wx_law_any
theorem wx_Row_times : ∃ w : WF, w = wDef 2 3
  (wSeq (wDrop (wFn 4 0 w_need_number (wcP (waCons (wVar 1) (waCons (wC (.str "number")) (waCons (wC .non) (waCons (wC .non) waNil)))))))
  (wRet (wNew false "Row" 1 0 w_Row_init (wcP (waCons (wLc false (wiAny (wFld "gains" (wVar 0))) (wgName 2) wYes (wOp (dMulT false) (wVar 1) (wVar 2)) [2]) waNil))))) := ⟨_, rfl⟩
@[irreducible] noncomputable def w_Row_times : WF := Classical.choose wx_Row_times
theorem w_Row_times_eq : w_Row_times = wDef 2 3
  (wSeq (wDrop (wFn 4 0 w_need_number (wcP (waCons (wVar 1) (waCons (wC (.str "number")) (waCons (wC .non) (waCons (wC .non) waNil)))))))
  (wRet (wNew false "Row" 1 0 w_Row_init (wcP (waCons (wLc false (wiAny (wFld "gains" (wVar 0))) (wgName 2) wYes (wOp (dMulT false) (wVar 1) (wVar 2)) [2]) waNil))))) := by
  unfold w_Row_times
  exact Classical.choose_spec wx_Row_times
theorem wx_Row_backwards : ∃ w : WF, w = wDef 1 1
  (wRet (wNew false "Row" 1 0 w_Row_init (wcP (waCons (wRev false (wFld "gains" (wVar 0))) waNil)))) := ⟨_, rfl⟩
@[irreducible] noncomputable def w_Row_backwards : WF := Classical.choose wx_Row_backwards
theorem w_Row_backwards_eq : w_Row_backwards = wDef 1 1
  (wRet (wNew false "Row" 1 0 w_Row_init (wcP (waCons (wRev false (wFld "gains" (wVar 0))) waNil)))) := by
  unfold w_Row_backwards
  exact Classical.choose_spec wx_Row_backwards
theorem wx_law_alone_right : ∃ w : WF, w = wDef 2 13
  (wSeq (wPar3 2 3 4 (waCons (wNew false "Row" 1 0 w_Row_init (wcP (waCons (wVar 1) waNil))) (waCons (wFn 1 0 w_law_words (wcP (waCons (wVar 1) waNil))) (waCons (wCB (b1 (dLenO "Row" w_Row_len dLen)) (waCons (wVar 1) waNil)) waNil))))
  (wSeq (wAsg (wLc false (wiAny (wVar 3)) (wgName 10) wYes (wDG [("gains", "loses"), ("loses", "gains")] (wVar 10) (wVar 10)) [10]) (wgName 5))
  (wSeq (wAsg (wTup (waCons (wOp (dAdd false) (wC (.int 1)) (wFn 2 0 w_law_any (wcP (waCons (wVar 0) (waCons (wLst false (waCons (wC (.int 0)) (waCons (wC (.int 1)) (waCons (wC (.int 6)) (waCons (wOp dPw (wC (.int 10)) (wC (.int 9))) waNil))))) waNil))))) (waCons (wOp (dAdd false) (wC (.int 1)) (wFn 2 0 w_law_drip (wcP (waCons (wVar 0) (waCons (wVar 4) waNil))))) waNil))) (wgTup 2 (wgCons (wgName 6) (wgCons (wgName 7) wgNil))))
  (wSeq (wIfS (wOr (wTest (wOp (dNeO "Row" ["Row"] w_Row_eq dNe) (wCB (b1 (dList false)) (waCons (wFn 1 0 w_table_words (wcP (waCons (wMt "Row" "backwards" 0 0 w_Row_backwards (wVar 2) (wcP waNil)) waNil))) waNil)) (wVar 3))) (wTest (wOp (dNeO "Row" ["Row"] w_Row_eq dNe) (wFn 2 0 w_sums (wcP (waCons (wMt "Row" "backwards" 0 0 w_Row_backwards (wVar 2) (wcP waNil)) (waCons (wVar 7) waNil)))) (wCB (b1 dTuple) (waCons (wRev false (wFn 2 0 w_law_sums (wcP (waCons (wVar 1) (waCons (wVar 7) waNil))))) waNil))))) (wRet (wC (.bl false))) wNext)
  (wKill [8, 9, 10, 11, 12] (wSeq (wIfS (wOr (wTest (wOp (dNeO "Row" ["Row"] w_Row_eq dNe) (wCB (b1 (dList false)) (waCons (wFn 1 0 w_table_words (wcP (waCons (wMt "Row" "times" 1 0 w_Row_times (wVar 2) (wcP (waCons (wVar 6) waNil))) waNil))) waNil)) (wVar 3))) (wOr (wTest (wOp (dNeO "Row" ["Row"] w_Row_eq dNe) (wCB (b1 (dList false)) (waCons (wFn 1 0 w_table_words (wcP (waCons (wMt "Row" "times" 1 0 w_Row_times (wVar 2) (wcP (waCons (wUn dNeg (wVar 6)) waNil))) waNil))) waNil)) (wVar 5))) (wTest (wOp (dNeO "Row" ["Row"] w_Row_eq dNe) (wFn 1 0 w_table_words (wcP (waCons (wMt "Row" "times" 1 0 w_Row_times (wVar 2) (wcP (waCons (wC (.int 0)) waNil))) waNil))) (wOp (dMulT false) (wTup (waCons (wC (.str "flat")) waNil)) (wVar 4)))))) (wRet (wC (.bl false))) wNext)
  (wKill [3, 5, 6, 8, 9, 10, 11, 12] (wSeq (wAsg (wFn 2 0 w_law_any (wcP (waCons (wVar 0) (waCons (wLst false (waCons (wC (.int 1)) (waCons (wUn dNeg (wC (.int 1))) (waCons (wC (.int 4)) (waCons (wUn dNeg (wC (.int 3))) waNil))))) waNil)))) (wgName 8))
  (wSeq (wIfS (wTest (wOp (dNeO "Row" ["Row"] w_Row_eq dNe) (wFn 2 0 w_sums (wcP (waCons (wMt "Row" "plus" 1 0 w_Row_plus (wVar 2) (wcP (waCons (wVar 8) waNil))) (waCons (wVar 7) waNil)))) (wCB (b1 dTuple) (waCons (wLc false (wiAny (wFn 2 0 w_law_sums (wcP (waCons (wVar 1) (waCons (wVar 7) waNil))))) (wgName 11) wYes (wOp (dAdd false) (wVar 11) (wOp (dMulT false) (wVar 7) (wVar 8))) [11]) waNil)))) (wRet (wC (.bl false))) wNext)
  (wKill [3, 5, 6, 7, 8, 9, 10, 11, 12] (wSeq (wAsg (wOp (dAdd false) (wC (.int 1)) (wCB dMaxT (waCons (wLc false (wiAny (wVar 1)) (wgName 12) wYes (wCB (b1 dAbs) (waCons (wVar 12) waNil)) [12]) waNil))) (wgName 9))
  (wRet (wAndT (wOp (dEqO "Row" ["Row"] w_Row_eq dEq) (wFn 1 0 w_table_words (wcP (waCons (wMt "Row" "plus" 1 0 w_Row_plus (wVar 2) (wcP (waCons (wVar 9) waNil))) waNil))) (wOp (dMulT false) (wTup (waCons (wC (.str "gains")) waNil)) (wVar 4))) (wOp (dEqO "Row" ["Row"] w_Row_eq dEq) (wFn 1 0 w_table_words (wcP (waCons (wMt "Row" "plus" 1 0 w_Row_plus (wVar 2) (wcP (waCons (wUn dNeg (wVar 9)) waNil))) waNil))) (wOp (dMulT false) (wTup (waCons (wC (.str "loses")) waNil)) (wVar 4)))))))))))))))) := ⟨_, rfl⟩
@[irreducible] noncomputable def w_law_alone_right : WF := Classical.choose wx_law_alone_right
theorem w_law_alone_right_eq : w_law_alone_right = wDef 2 13
  (wSeq (wPar3 2 3 4 (waCons (wNew false "Row" 1 0 w_Row_init (wcP (waCons (wVar 1) waNil))) (waCons (wFn 1 0 w_law_words (wcP (waCons (wVar 1) waNil))) (waCons (wCB (b1 (dLenO "Row" w_Row_len dLen)) (waCons (wVar 1) waNil)) waNil))))
  (wSeq (wAsg (wLc false (wiAny (wVar 3)) (wgName 10) wYes (wDG [("gains", "loses"), ("loses", "gains")] (wVar 10) (wVar 10)) [10]) (wgName 5))
  (wSeq (wAsg (wTup (waCons (wOp (dAdd false) (wC (.int 1)) (wFn 2 0 w_law_any (wcP (waCons (wVar 0) (waCons (wLst false (waCons (wC (.int 0)) (waCons (wC (.int 1)) (waCons (wC (.int 6)) (waCons (wOp dPw (wC (.int 10)) (wC (.int 9))) waNil))))) waNil))))) (waCons (wOp (dAdd false) (wC (.int 1)) (wFn 2 0 w_law_drip (wcP (waCons (wVar 0) (waCons (wVar 4) waNil))))) waNil))) (wgTup 2 (wgCons (wgName 6) (wgCons (wgName 7) wgNil))))
  (wSeq (wIfS (wOr (wTest (wOp (dNeO "Row" ["Row"] w_Row_eq dNe) (wCB (b1 (dList false)) (waCons (wFn 1 0 w_table_words (wcP (waCons (wMt "Row" "backwards" 0 0 w_Row_backwards (wVar 2) (wcP waNil)) waNil))) waNil)) (wVar 3))) (wTest (wOp (dNeO "Row" ["Row"] w_Row_eq dNe) (wFn 2 0 w_sums (wcP (waCons (wMt "Row" "backwards" 0 0 w_Row_backwards (wVar 2) (wcP waNil)) (waCons (wVar 7) waNil)))) (wCB (b1 dTuple) (waCons (wRev false (wFn 2 0 w_law_sums (wcP (waCons (wVar 1) (waCons (wVar 7) waNil))))) waNil))))) (wRet (wC (.bl false))) wNext)
  (wKill [8, 9, 10, 11, 12] (wSeq (wIfS (wOr (wTest (wOp (dNeO "Row" ["Row"] w_Row_eq dNe) (wCB (b1 (dList false)) (waCons (wFn 1 0 w_table_words (wcP (waCons (wMt "Row" "times" 1 0 w_Row_times (wVar 2) (wcP (waCons (wVar 6) waNil))) waNil))) waNil)) (wVar 3))) (wOr (wTest (wOp (dNeO "Row" ["Row"] w_Row_eq dNe) (wCB (b1 (dList false)) (waCons (wFn 1 0 w_table_words (wcP (waCons (wMt "Row" "times" 1 0 w_Row_times (wVar 2) (wcP (waCons (wUn dNeg (wVar 6)) waNil))) waNil))) waNil)) (wVar 5))) (wTest (wOp (dNeO "Row" ["Row"] w_Row_eq dNe) (wFn 1 0 w_table_words (wcP (waCons (wMt "Row" "times" 1 0 w_Row_times (wVar 2) (wcP (waCons (wC (.int 0)) waNil))) waNil))) (wOp (dMulT false) (wTup (waCons (wC (.str "flat")) waNil)) (wVar 4)))))) (wRet (wC (.bl false))) wNext)
  (wKill [3, 5, 6, 8, 9, 10, 11, 12] (wSeq (wAsg (wFn 2 0 w_law_any (wcP (waCons (wVar 0) (waCons (wLst false (waCons (wC (.int 1)) (waCons (wUn dNeg (wC (.int 1))) (waCons (wC (.int 4)) (waCons (wUn dNeg (wC (.int 3))) waNil))))) waNil)))) (wgName 8))
  (wSeq (wIfS (wTest (wOp (dNeO "Row" ["Row"] w_Row_eq dNe) (wFn 2 0 w_sums (wcP (waCons (wMt "Row" "plus" 1 0 w_Row_plus (wVar 2) (wcP (waCons (wVar 8) waNil))) (waCons (wVar 7) waNil)))) (wCB (b1 dTuple) (waCons (wLc false (wiAny (wFn 2 0 w_law_sums (wcP (waCons (wVar 1) (waCons (wVar 7) waNil))))) (wgName 11) wYes (wOp (dAdd false) (wVar 11) (wOp (dMulT false) (wVar 7) (wVar 8))) [11]) waNil)))) (wRet (wC (.bl false))) wNext)
  (wKill [3, 5, 6, 7, 8, 9, 10, 11, 12] (wSeq (wAsg (wOp (dAdd false) (wC (.int 1)) (wCB dMaxT (waCons (wLc false (wiAny (wVar 1)) (wgName 12) wYes (wCB (b1 dAbs) (waCons (wVar 12) waNil)) [12]) waNil))) (wgName 9))
  (wRet (wAndT (wOp (dEqO "Row" ["Row"] w_Row_eq dEq) (wFn 1 0 w_table_words (wcP (waCons (wMt "Row" "plus" 1 0 w_Row_plus (wVar 2) (wcP (waCons (wVar 9) waNil))) waNil))) (wOp (dMulT false) (wTup (waCons (wC (.str "gains")) waNil)) (wVar 4))) (wOp (dEqO "Row" ["Row"] w_Row_eq dEq) (wFn 1 0 w_table_words (wcP (waCons (wMt "Row" "plus" 1 0 w_Row_plus (wVar 2) (wcP (waCons (wUn dNeg (wVar 9)) waNil))) waNil))) (wOp (dMulT false) (wTup (waCons (wC (.str "loses")) waNil)) (wVar 4)))))))))))))))) := by
  unfold w_law_alone_right
  exact Classical.choose_spec wx_law_alone_right
theorem wx_law_gains : ∃ w : WF, w = wDef 2 7
  (wSeq (wAsg (wFn 2 0 w_law_drip (wcP (waCons (wVar 0) (waCons (wC (.int 7)) waNil)))) (wgName 2))
  (wSeq (wIfS (wTest (wOp dLt (wVar 2) (wC (.int 2)))) (wRet (wDp [4, 3] (wLc false (wiR1 (waCons (wVar 1) waNil)) (wgName 6) wYes (wOp dSub (wFn 2 0 w_law_drip (wcP (waCons (wVar 0) (waCons (wC (.int 7)) waNil)))) (wC (.int 3))) [6]))) wNext)
  (wKill [5, 6] (wSeq (wIfS (wTest (wOp (dEqO "Row" ["Row"] w_Row_eq dEq) (wVar 2) (wC (.int 2)))) (wRet (wDp [4, 3] (wLc false (wiR1 (waCons (wVar 1) waNil)) (wgName 6) wYes (wFn 2 0 w_law_any (wcP (waCons (wVar 0) (waCons (wLst false (waCons (wC (.int 0)) (waCons (wC (.int 0)) (waCons (wC (.int 0)) (waCons (wC (.int 1)) (waCons (wUn dNeg (wC (.int 1))) waNil)))))) waNil)))) [6]))) wNext)
  (wKill [5, 6] (wSeq (wIfS (wTest (wOp (dEqO "Row" ["Row"] w_Row_eq dEq) (wVar 2) (wC (.int 3)))) (wRet (wDp [4, 3] (wLc false (wiR1 (waCons (wVar 1) waNil)) (wgName 6) wYes (wFn 2 0 w_law_any (wcP (waCons (wVar 0) (waCons (wLst false (waCons (wOp dPw (wC (.int 10)) (wC (.int 20))) (waCons (wOp dSub (wC (.int 1)) (wOp dPw (wC (.int 10)) (wC (.int 20)))) (waCons (wOp dPw (wC (.int 10)) (wC (.int 6))) (waCons (wC (.int 0)) (waCons (wUn dNeg (wC (.int 999999))) (waCons (wC (.int 7)) waNil))))))) waNil)))) [6]))) wNext)
  (wKill [5, 6] (wSeq (wAsg (wLc true (wiR1 (waCons (wOp (dAdd false) (wC (.int 1)) (wFn 2 0 w_law_drip (wcP (waCons (wVar 0) (waCons (wC (.int 5)) waNil))))) waNil)) (wgName 6) wYes (wOp dSub (wFn 2 0 w_law_drip (wcP (waCons (wVar 0) (waCons (wC (.int 9)) waNil)))) (wC (.int 4))) [6]) (wgName 3))
  (wSeq (wIfS (wTest (wOp (dEqO "Row" ["Row"] w_Row_eq dEq) (wVar 2) (wC (.int 4)))) (wAsg (wOp dSub (wOp dIx (wVar 3) (wC (.int 0))) (wCB (b1 dSum) (waCons (wVar 3) waNil))) (wgSub (wVar 3) (wC (.int 0)))) wNext)
  (wKill [5, 6] (wSeq (wAsg (wLc true (wiR1 (waCons (wVar 1) waNil)) (wgName 6) wYes (wOp dIx (wVar 3) (wOp dMd (wCB (b1 dInt) (waCons (wVar 6) waNil)) (wCB (b1 (dLenO "Row" w_Row_len dLen)) (waCons (wVar 3) waNil)))) [6]) (wgName 4))
  (wSeq (wIfS (wTest (wOp (dEqO "Row" ["Row"] w_Row_eq dEq) (wVar 2) (wC (.int 6)))) (wSeq (wAsg (wFn 2 0 w_law_drip (wcP (waCons (wVar 0) (waCons (wVar 1) waNil)))) (wgName 5))
  (wAsg (wOp (dAdd false) (wOp dIx (wVar 4) (wVar 5)) (wFn 2 0 w_law_any (wcP (waCons (wVar 0) (waCons (wLst false (waCons (wC (.int 1)) (waCons (wUn dNeg (wC (.int 1))) (waCons (wC (.int 30)) waNil)))) waNil))))) (wgSub (wVar 4) (wVar 5)))) wNext)
  (wKill [1, 2, 5, 6] (wRet (wDp [3] (wFz (wVar 4))))))))))))))))) := ⟨_, rfl⟩
@[irreducible] noncomputable def w_law_gains : WF := Classical.choose wx_law_gains
theorem w_law_gains_eq : w_law_gains = wDef 2 7
  (wSeq (wAsg (wFn 2 0 w_law_drip (wcP (waCons (wVar 0) (waCons (wC (.int 7)) waNil)))) (wgName 2))
  (wSeq (wIfS (wTest (wOp dLt (wVar 2) (wC (.int 2)))) (wRet (wDp [4, 3] (wLc false (wiR1 (waCons (wVar 1) waNil)) (wgName 6) wYes (wOp dSub (wFn 2 0 w_law_drip (wcP (waCons (wVar 0) (waCons (wC (.int 7)) waNil)))) (wC (.int 3))) [6]))) wNext)
  (wKill [5, 6] (wSeq (wIfS (wTest (wOp (dEqO "Row" ["Row"] w_Row_eq dEq) (wVar 2) (wC (.int 2)))) (wRet (wDp [4, 3] (wLc false (wiR1 (waCons (wVar 1) waNil)) (wgName 6) wYes (wFn 2 0 w_law_any (wcP (waCons (wVar 0) (waCons (wLst false (waCons (wC (.int 0)) (waCons (wC (.int 0)) (waCons (wC (.int 0)) (waCons (wC (.int 1)) (waCons (wUn dNeg (wC (.int 1))) waNil)))))) waNil)))) [6]))) wNext)
  (wKill [5, 6] (wSeq (wIfS (wTest (wOp (dEqO "Row" ["Row"] w_Row_eq dEq) (wVar 2) (wC (.int 3)))) (wRet (wDp [4, 3] (wLc false (wiR1 (waCons (wVar 1) waNil)) (wgName 6) wYes (wFn 2 0 w_law_any (wcP (waCons (wVar 0) (waCons (wLst false (waCons (wOp dPw (wC (.int 10)) (wC (.int 20))) (waCons (wOp dSub (wC (.int 1)) (wOp dPw (wC (.int 10)) (wC (.int 20)))) (waCons (wOp dPw (wC (.int 10)) (wC (.int 6))) (waCons (wC (.int 0)) (waCons (wUn dNeg (wC (.int 999999))) (waCons (wC (.int 7)) waNil))))))) waNil)))) [6]))) wNext)
  (wKill [5, 6] (wSeq (wAsg (wLc true (wiR1 (waCons (wOp (dAdd false) (wC (.int 1)) (wFn 2 0 w_law_drip (wcP (waCons (wVar 0) (waCons (wC (.int 5)) waNil))))) waNil)) (wgName 6) wYes (wOp dSub (wFn 2 0 w_law_drip (wcP (waCons (wVar 0) (waCons (wC (.int 9)) waNil)))) (wC (.int 4))) [6]) (wgName 3))
  (wSeq (wIfS (wTest (wOp (dEqO "Row" ["Row"] w_Row_eq dEq) (wVar 2) (wC (.int 4)))) (wAsg (wOp dSub (wOp dIx (wVar 3) (wC (.int 0))) (wCB (b1 dSum) (waCons (wVar 3) waNil))) (wgSub (wVar 3) (wC (.int 0)))) wNext)
  (wKill [5, 6] (wSeq (wAsg (wLc true (wiR1 (waCons (wVar 1) waNil)) (wgName 6) wYes (wOp dIx (wVar 3) (wOp dMd (wCB (b1 dInt) (waCons (wVar 6) waNil)) (wCB (b1 (dLenO "Row" w_Row_len dLen)) (waCons (wVar 3) waNil)))) [6]) (wgName 4))
  (wSeq (wIfS (wTest (wOp (dEqO "Row" ["Row"] w_Row_eq dEq) (wVar 2) (wC (.int 6)))) (wSeq (wAsg (wFn 2 0 w_law_drip (wcP (waCons (wVar 0) (waCons (wVar 1) waNil)))) (wgName 5))
  (wAsg (wOp (dAdd false) (wOp dIx (wVar 4) (wVar 5)) (wFn 2 0 w_law_any (wcP (waCons (wVar 0) (waCons (wLst false (waCons (wC (.int 1)) (waCons (wUn dNeg (wC (.int 1))) (waCons (wC (.int 30)) waNil)))) waNil))))) (wgSub (wVar 4) (wVar 5)))) wNext)
  (wKill [1, 2, 5, 6] (wRet (wDp [3] (wFz (wVar 4))))))))))))))))) := by
  unfold w_law_gains
  exact Classical.choose_spec wx_law_gains
theorem wx_law_known : ∃ w : WF, w = wDef 1 1
  (wRet (wFn 2 0 w_law_any (wcP (waCons (wVar 0) (waCons (wLst false (waCons (wLst false (waCons (wUn dNeg (wC (.int 3))) (waCons (wC (.int 5)) (waCons (wUn dNeg (wC (.int 3))) (waCons (wUn dNeg (wC (.int 3))) (waCons (wC (.int 5)) (waCons (wUn dNeg (wC (.int 3))) waNil))))))) (waCons (wLst false (waCons (wC (.int 5)) (waCons (wC (.int 5)) (waCons (wUn dNeg (wC (.int 13))) (waCons (wC (.int 5)) (waCons (wC (.int 5)) (waCons (wC (.int 5)) (waCons (wUn dNeg (wC (.int 13))) (waCons (wC (.int 5)) (waCons (wC (.int 5)) (waCons (wUn dNeg (wC (.int 13))) (waCons (wC (.int 5)) (waCons (wC (.int 5)) (waCons (wC (.int 5)) (waCons (wUn dNeg (wC (.int 13))) (waCons (wC (.int 5)) (waCons (wC (.int 5)) waNil))))))))))))))))) (waCons (wLst false (waCons (wUn dNeg (wC (.int 1))) (waCons (wC (.int 3)) (waCons (wUn dNeg (wC (.int 1))) (waCons (wUn dNeg (wC (.int 3))) (waCons (wC (.int 0)) (waCons (wC (.int 3)) (waCons (wUn dNeg (wC (.int 1))) waNil)))))))) (waCons (wLst false (waCons (wC (.int 1)) (waCons (wUn dNeg (wC (.int 1))) (waCons (wC (.int 1)) (waCons (wUn dNeg (wC (.int 1))) (waCons (wC (.int 1)) waNil)))))) (waCons (wLst false (waCons (wC (.int 0)) (waCons (wC (.int 0)) (waCons (wC (.int 0)) waNil)))) (waCons (wLst false (waCons (wUn dNeg (wC (.int 1))) (waCons (wC (.int 2)) (waCons (wUn dNeg (wC (.int 1))) waNil)))) (waCons (wLst false (waCons (wC (.int 4)) waNil)) waNil)))))))) waNil))))) := ⟨_, rfl⟩
@[irreducible] noncomputable def w_law_known : WF := Classical.choose wx_law_known
theorem w_law_known_eq : w_law_known = wDef 1 1
  (wRet (wFn 2 0 w_law_any (wcP (waCons (wVar 0) (waCons (wLst false (waCons (wLst false (waCons (wUn dNeg (wC (.int 3))) (waCons (wC (.int 5)) (waCons (wUn dNeg (wC (.int 3))) (waCons (wUn dNeg (wC (.int 3))) (waCons (wC (.int 5)) (waCons (wUn dNeg (wC (.int 3))) waNil))))))) (waCons (wLst false (waCons (wC (.int 5)) (waCons (wC (.int 5)) (waCons (wUn dNeg (wC (.int 13))) (waCons (wC (.int 5)) (waCons (wC (.int 5)) (waCons (wC (.int 5)) (waCons (wUn dNeg (wC (.int 13))) (waCons (wC (.int 5)) (waCons (wC (.int 5)) (waCons (wUn dNeg (wC (.int 13))) (waCons (wC (.int 5)) (waCons (wC (.int 5)) (waCons (wC (.int 5)) (waCons (wUn dNeg (wC (.int 13))) (waCons (wC (.int 5)) (waCons (wC (.int 5)) waNil))))))))))))))))) (waCons (wLst false (waCons (wUn dNeg (wC (.int 1))) (waCons (wC (.int 3)) (waCons (wUn dNeg (wC (.int 1))) (waCons (wUn dNeg (wC (.int 3))) (waCons (wC (.int 0)) (waCons (wC (.int 3)) (waCons (wUn dNeg (wC (.int 1))) waNil)))))))) (waCons (wLst false (waCons (wC (.int 1)) (waCons (wUn dNeg (wC (.int 1))) (waCons (wC (.int 1)) (waCons (wUn dNeg (wC (.int 1))) (waCons (wC (.int 1)) waNil)))))) (waCons (wLst false (waCons (wC (.int 0)) (waCons (wC (.int 0)) (waCons (wC (.int 0)) waNil)))) (waCons (wLst false (waCons (wUn dNeg (wC (.int 1))) (waCons (wC (.int 2)) (waCons (wUn dNeg (wC (.int 1))) waNil)))) (waCons (wLst false (waCons (wC (.int 4)) waNil)) waNil)))))))) waNil))))) := by
  unfold w_law_known
  exact Classical.choose_spec wx_law_known
theorem wx_law_tap : ∃ w : WF, w = wDef 1 2
  (wRet (wLst true (waCons (wLc false (wiAny (wSl false (wVar 0) woNone (woSome (wC (.int 60))))) (wgName 1) wYes (wCB (b1 dInt) (waCons (wVar 1) waNil)) [1]) (waCons (wC (.int 0)) (waCons (wC (.int 0)) waNil))))) := ⟨_, rfl⟩
@[irreducible] noncomputable def w_law_tap : WF := Classical.choose wx_law_tap
theorem w_law_tap_eq : w_law_tap = wDef 1 2
  (wRet (wLst true (waCons (wLc false (wiAny (wSl false (wVar 0) woNone (woSome (wC (.int 60))))) (wgName 1) wYes (wCB (b1 dInt) (waCons (wVar 1) waNil)) [1]) (waCons (wC (.int 0)) (waCons (wC (.int 0)) waNil))))) := by
  unfold w_law_tap
  exact Classical.choose_spec wx_law_tap
theorem wx_law : ∃ w : WF, w = wDef 1 6
  (wSeq (wAsg (wFn 1 0 w_law_tap (wcP (waCons (wVar 0) waNil))) (wgName 1))
  (wSeq (wFor (wiR1 (waCons (wC (.int 3)) waNil)) (wgName 2) (wSeq (wAsg (wFn 2 0 w_law_gains (wcP (waCons (wVar 1) (waCons (wFn 2 0 w_law_any (wcP (waCons (wVar 1) (waCons (wLst false (waCons (wC (.int 6)) (waCons (wC (.int 12)) (waCons (wC (.int 5)) (waCons (wC (.int 1)) (waCons (wC (.int 16)) (waCons (wC (.int 7)) (waCons (wC (.int 2)) (waCons (wC (.int 8)) (waCons (wC (.int 9)) (waCons (wC (.int 3)) waNil))))))))))) waNil)))) waNil)))) (wgName 3))
  (wSeq (wIfS (wTest (wOp (dEqO "Row" ["Row"] w_Row_eq dEq) (wFn 2 0 w_law_drip (wcP (waCons (wVar 1) (waCons (wC (.int 3)) waNil)))) (wC (.int 0)))) (wAsg (wFn 1 0 w_law_known (wcP (waCons (wVar 1) waNil))) (wgName 3)) wNext)
  (wKill [0, 2, 4, 5] (wSeq (wAsg (wFn 2 0 w_law_gains (wcP (waCons (wVar 1) (waCons (wCB (b1 dLen) (waCons (wVar 3) waNil)) waNil)))) (wgName 4))
  (wSeq (wIfS (wTest (wOp (dEqO "Row" ["Row"] w_Row_eq dEq) (wFn 2 0 w_law_drip (wcP (waCons (wVar 1) (waCons (wC (.int 3)) waNil)))) (wC (.int 0)))) (wAsg (wIf (wTest (wOp (dEqO "Row" ["Row"] w_Row_eq dEq) (wFn 2 0 w_law_drip (wcP (waCons (wVar 1) (waCons (wC (.int 3)) waNil)))) (wC (.int 0)))) (wOp (dMulT false) (wLst false (waCons (wC (.int 0)) waNil)) (wCB (b1 dLen) (waCons (wVar 3) waNil))) (wLc false (wiAny (wVar 3)) (wgName 5) wYes (wOp (dMulT false) (wFn 2 0 w_law_any (wcP (waCons (wVar 1) (waCons (wLst false (waCons (wC (.int 2)) (waCons (wUn dNeg (wC (.int 1))) (waCons (wC (.int 3)) waNil)))) waNil)))) (wVar 5)) [5])) (wgName 4)) wNext)
  (wKill [0, 2, 5] (wSeq (wIfS (wOr (wNot (wTru (wFn 2 0 w_law_alone_right (wcP (waCons (wVar 1) (waCons (wVar 3) waNil)))))) (wNot (wTru (wFn 2 0 w_law_added_right (wcP (waCons (wVar 3) (waCons (wVar 4) waNil))))))) (wRet (wDp [1] (wC (.bl false)))) wNext)
  (wKill [0, 2, 5] (wIfS (wOr (wNot (wTru (wFn 2 0 w_law_joined_right (wcP (waCons (wVar 3) (waCons (wVar 4) waNil)))))) (wNot (wTru (wFn 1 0 w_law_twice_right (wcP (waCons (wVar 3) waNil)))))) (wRet (wDp [1] (wC (.bl false)))) wNext))))))))) [0, 2, 3, 4, 5])
  (wRet (wDp [1] (wC (.bl true)))))) := ⟨_, rfl⟩
@[irreducible] noncomputable def w_law : WF := Classical.choose wx_law
theorem w_law_eq : w_law = wDef 1 6
  (wSeq (wAsg (wFn 1 0 w_law_tap (wcP (waCons (wVar 0) waNil))) (wgName 1))
  (wSeq (wFor (wiR1 (waCons (wC (.int 3)) waNil)) (wgName 2) (wSeq (wAsg (wFn 2 0 w_law_gains (wcP (waCons (wVar 1) (waCons (wFn 2 0 w_law_any (wcP (waCons (wVar 1) (waCons (wLst false (waCons (wC (.int 6)) (waCons (wC (.int 12)) (waCons (wC (.int 5)) (waCons (wC (.int 1)) (waCons (wC (.int 16)) (waCons (wC (.int 7)) (waCons (wC (.int 2)) (waCons (wC (.int 8)) (waCons (wC (.int 9)) (waCons (wC (.int 3)) waNil))))))))))) waNil)))) waNil)))) (wgName 3))
  (wSeq (wIfS (wTest (wOp (dEqO "Row" ["Row"] w_Row_eq dEq) (wFn 2 0 w_law_drip (wcP (waCons (wVar 1) (waCons (wC (.int 3)) waNil)))) (wC (.int 0)))) (wAsg (wFn 1 0 w_law_known (wcP (waCons (wVar 1) waNil))) (wgName 3)) wNext)
  (wKill [0, 2, 4, 5] (wSeq (wAsg (wFn 2 0 w_law_gains (wcP (waCons (wVar 1) (waCons (wCB (b1 dLen) (waCons (wVar 3) waNil)) waNil)))) (wgName 4))
  (wSeq (wIfS (wTest (wOp (dEqO "Row" ["Row"] w_Row_eq dEq) (wFn 2 0 w_law_drip (wcP (waCons (wVar 1) (waCons (wC (.int 3)) waNil)))) (wC (.int 0)))) (wAsg (wIf (wTest (wOp (dEqO "Row" ["Row"] w_Row_eq dEq) (wFn 2 0 w_law_drip (wcP (waCons (wVar 1) (waCons (wC (.int 3)) waNil)))) (wC (.int 0)))) (wOp (dMulT false) (wLst false (waCons (wC (.int 0)) waNil)) (wCB (b1 dLen) (waCons (wVar 3) waNil))) (wLc false (wiAny (wVar 3)) (wgName 5) wYes (wOp (dMulT false) (wFn 2 0 w_law_any (wcP (waCons (wVar 1) (waCons (wLst false (waCons (wC (.int 2)) (waCons (wUn dNeg (wC (.int 1))) (waCons (wC (.int 3)) waNil)))) waNil)))) (wVar 5)) [5])) (wgName 4)) wNext)
  (wKill [0, 2, 5] (wSeq (wIfS (wOr (wNot (wTru (wFn 2 0 w_law_alone_right (wcP (waCons (wVar 1) (waCons (wVar 3) waNil)))))) (wNot (wTru (wFn 2 0 w_law_added_right (wcP (waCons (wVar 3) (waCons (wVar 4) waNil))))))) (wRet (wDp [1] (wC (.bl false)))) wNext)
  (wKill [0, 2, 5] (wIfS (wOr (wNot (wTru (wFn 2 0 w_law_joined_right (wcP (waCons (wVar 3) (waCons (wVar 4) waNil)))))) (wNot (wTru (wFn 1 0 w_law_twice_right (wcP (waCons (wVar 3) waNil)))))) (wRet (wDp [1] (wC (.bl false)))) wNext))))))))) [0, 2, 3, 4, 5])
  (wRet (wDp [1] (wC (.bl true)))))) := by
  unfold w_law
  exact Classical.choose_spec wx_law
end K10

set_option Elab.async false
set_option linter.all false
set_option maxRecDepth 100000
set_option maxHeartbeats 4000000
namespace K10
open PySem PySem.Spec PyProof.Rows L2 Rl RZ RT
def top (i : Nat) : Stmt := PySem.Challenge.pw_anyseven_k10_sorts_go_along.main.body.getD i (.Pass ⟨0, 0, 0, 0⟩)
abbrev st_Row_eq : Stmt := inClass (top 23) 11
abbrev d_Row_eq : Df := ⟨.meth "Row" "__eq__", "__eq__", "Row.__eq__", defArgs st_Row_eq, defBody st_Row_eq, defScope st_Row_eq⟩
abbrev st_word_of : Stmt := top 31
abbrev d_word_of : Df := ⟨.top "word_of", "word_of", "word_of", defArgs st_word_of, defBody st_word_of, defScope st_word_of⟩
abbrev st_sums_in : Stmt := top 30
abbrev d_sums_in : Df := ⟨.top "sums_in", "sums_in", "sums_in", defArgs st_sums_in, defBody st_sums_in, defScope st_sums_in⟩
abbrev st_need_row : Stmt := top 20
abbrev d_need_row : Df := ⟨.top "need_row", "need_row", "need_row", defArgs st_need_row, defBody st_need_row, defScope st_need_row⟩
abbrev st_table_words : Stmt := top 34
abbrev d_table_words : Df := ⟨.top "table_words", "table_words", "table_words", defArgs st_table_words, defBody st_table_words, defScope st_table_words⟩
abbrev st_is_integer : Stmt := top 10
abbrev d_is_integer : Df := ⟨.top "is_integer", "is_integer", "is_integer", defArgs st_is_integer, defBody st_is_integer, defScope st_is_integer⟩
abbrev st_is_within : Stmt := top 11
abbrev d_is_within : Df := ⟨.top "is_within", "is_within", "is_within", defArgs st_is_within, defBody st_is_within, defScope st_is_within⟩
abbrev st_need_number : Stmt := top 13
abbrev d_need_number : Df := ⟨.top "need_number", "need_number", "need_number", defArgs st_need_number, defBody st_need_number, defScope st_need_number⟩
abbrev st_need_length : Stmt := top 29
abbrev d_need_length : Df := ⟨.top "need_length", "need_length", "need_length", defArgs st_need_length, defBody st_need_length, defScope st_need_length⟩
abbrev st_sort_of : Stmt := top 33
abbrev d_sort_of : Df := ⟨.top "sort_of", "sort_of", "sort_of", defArgs st_sort_of, defBody st_sort_of, defScope st_sort_of⟩
abbrev st_sums : Stmt := top 32
abbrev d_sums : Df := ⟨.top "sums", "sums", "sums", defArgs st_sums, defBody st_sums, defScope st_sums⟩
abbrev st_heights_of : Stmt := top 22
abbrev d_heights_of : Df := ⟨.top "heights_of", "heights_of", "heights_of", defArgs st_heights_of, defBody st_heights_of, defScope st_heights_of⟩
abbrev st_are_integers : Stmt := top 12
abbrev d_are_integers : Df := ⟨.top "are_integers", "are_integers", "are_integers", defArgs st_are_integers, defBody st_are_integers, defScope st_are_integers⟩
abbrev st_Row_init : Stmt := inClass (top 23) 0
abbrev d_Row_init : Df := ⟨.meth "Row" "__init__", "__init__", "Row.__init__", defArgs st_Row_init, defBody st_Row_init, defScope st_Row_init⟩
abbrev st_Row_joined : Stmt := inClass (top 23) 8
abbrev d_Row_joined : Df := ⟨.meth "Row" "joined", "joined", "Row.joined", defArgs st_Row_joined, defBody st_Row_joined, defScope st_Row_joined⟩
abbrev st_Row_len : Stmt := inClass (top 23) 10
abbrev d_Row_len : Df := ⟨.meth "Row" "__len__", "__len__", "Row.__len__", defArgs st_Row_len, defBody st_Row_len, defScope st_Row_len⟩
abbrev st_law_twice_right : Stmt := top 47
abbrev d_law_twice_right : Df := ⟨.top "_law_twice_right", "_law_twice_right", "_law_twice_right", defArgs st_law_twice_right, defBody st_law_twice_right, defScope st_law_twice_right⟩
abbrev st_law_word : Stmt := top 42
abbrev d_law_word : Df := ⟨.top "_law_word", "_law_word", "_law_word", defArgs st_law_word, defBody st_law_word, defScope st_law_word⟩
abbrev st_law_sums : Stmt := top 41
abbrev d_law_sums : Df := ⟨.top "_law_sums", "_law_sums", "_law_sums", defArgs st_law_sums, defBody st_law_sums, defScope st_law_sums⟩
abbrev st_law_words : Stmt := top 43
abbrev d_law_words : Df := ⟨.top "_law_words", "_law_words", "_law_words", defArgs st_law_words, defBody st_law_words, defScope st_law_words⟩
abbrev st_law_joined_right : Stmt := top 46
abbrev d_law_joined_right : Df := ⟨.top "_law_joined_right", "_law_joined_right", "_law_joined_right", defArgs st_law_joined_right, defBody st_law_joined_right, defScope st_law_joined_right⟩
abbrev st_Row_added : Stmt := inClass (top 23) 9
abbrev d_Row_added : Df := ⟨.meth "Row" "added", "added", "Row.added", defArgs st_Row_added, defBody st_Row_added, defScope st_Row_added⟩
abbrev st_law_added_right : Stmt := top 45
abbrev d_law_added_right : Df := ⟨.top "_law_added_right", "_law_added_right", "_law_added_right", defArgs st_law_added_right, defBody st_law_added_right, defScope st_law_added_right⟩
abbrev st_Row_plus : Stmt := inClass (top 23) 7
abbrev d_Row_plus : Df := ⟨.meth "Row" "plus", "plus", "Row.plus", defArgs st_Row_plus, defBody st_Row_plus, defScope st_Row_plus⟩
abbrev st_law_drip : Stmt := top 37
abbrev d_law_drip : Df := ⟨.top "_law_drip", "_law_drip", "_law_drip", defArgs st_law_drip, defBody st_law_drip, defScope st_law_drip⟩
abbrev st_law_any : Stmt := top 38
abbrev d_law_any : Df := ⟨.top "_law_any", "_law_any", "_law_any", defArgs st_law_any, defBody st_law_any, defScope st_law_any⟩
abbrev st_Row_times : Stmt := inClass (top 23) 6
abbrev d_Row_times : Df := ⟨.meth "Row" "times", "times", "Row.times", defArgs st_Row_times, defBody st_Row_times, defScope st_Row_times⟩
abbrev st_Row_backwards : Stmt := inClass (top 23) 5
abbrev d_Row_backwards : Df := ⟨.meth "Row" "backwards", "backwards", "Row.backwards", defArgs st_Row_backwards, defBody st_Row_backwards, defScope st_Row_backwards⟩
abbrev st_law_alone_right : Stmt := top 44
abbrev d_law_alone_right : Df := ⟨.top "_law_alone_right", "_law_alone_right", "_law_alone_right", defArgs st_law_alone_right, defBody st_law_alone_right, defScope st_law_alone_right⟩
abbrev st_law_gains : Stmt := top 39
abbrev d_law_gains : Df := ⟨.top "_law_gains", "_law_gains", "_law_gains", defArgs st_law_gains, defBody st_law_gains, defScope st_law_gains⟩
abbrev st_law_known : Stmt := top 40
abbrev d_law_known : Df := ⟨.top "_law_known", "_law_known", "_law_known", defArgs st_law_known, defBody st_law_known, defScope st_law_known⟩
abbrev st_law_tap : Stmt := top 36
abbrev d_law_tap : Df := ⟨.top "_law_tap", "_law_tap", "_law_tap", defArgs st_law_tap, defBody st_law_tap, defScope st_law_tap⟩
abbrev st_law : Stmt := top 48
abbrev d_law : Df := ⟨.top "law", "law", "law", defArgs st_law, defBody st_law, defScope st_law⟩
def fn : List Df := [d_Row_eq, d_word_of, d_sums_in, d_need_row, d_table_words, d_is_integer, d_is_within, d_need_number, d_need_length, d_sort_of, d_sums, d_heights_of, d_are_integers, d_Row_init, d_Row_joined, d_Row_len, d_law_twice_right, d_law_word, d_law_sums, d_law_words, d_law_joined_right, d_Row_added, d_law_added_right, d_Row_plus, d_law_drip, d_law_any, d_Row_times, d_Row_backwards, d_law_alone_right, d_law_gains, d_law_known, d_law_tap, d_law]
def fa : List Fb := [.he (.free "range"),
  .he (.glo "Row"),
  .he (.free "isinstance"),
  .nf "tuple" "Row",
  .nf "list" "Row",
  .nf "str" "Row",
  .nf "int" "Row",
  .nf "bool" "Row",
  .nf "NoneType" "Row",
  .nfO "Row" "Row",
  .spm "Row" "__eq__",
  .he (.free "max"),
  .he (.free "min"),
  .he (.str "FLAT" "flat"),
  .he (.str "MIXED" "mixed"),
  .he (.str "LOSES" "loses"),
  .he (.str "GAINS" "gains"),
  .he (.free "zip"),
  .he (.free "tuple"),
  .he (.glo "sums_in"),
  .he (.glo "word_of"),
  .he (.glo "need_row"),
  .he (.glo "table_words"),
  .nem "Row",
  .he (.free "bool"),
  .he (.free "int"),
  .he (.glo "is_integer"),
  .he (.glo "is_within"),
  .he (.glo "need_number"),
  .he (.glo "need_length"),
  .he (.glo "sort_of"),
  .he (.glo "sums"),
  .he (.noat "Row" "total"),
  .he (.free "len"),
  .he (.noat "Row" "days"),
  .he (.glo "heights_of"),
  .he (.noat "Row" "heights"),
  .he (.noat "Row" "gains"),
  .he (.int "MOST_DAYS" (48)),
  .he (.free "all"),
  .he (.free "list"),
  .he (.glo "are_integers"),
  .he (.cls "Row"),
  .tyi "Row",
  .he (.mkr "Row"),
  .he (.meth "Row" "joined"),
  .he (.free "sum"),
  .spm "Row" "__len__",
  .he (.glo "_law_twice_right"),
  .he (.free "enumerate"),
  .he (.glo "_law_sums"),
  .he (.glo "_law_word"),
  .he (.glo "_law_words"),
  .he (.glo "_law_joined_right"),
  .he (.meth "Row" "added"),
  .he (.glo "_law_added_right"),
  .he (.meth "Row" "plus"),
  .he (.free "abs"),
  .he (.glo "_law_drip"),
  .he (.glo "_law_any"),
  .he (.meth "Row" "times"),
  .he (.meth "Row" "backwards"),
  .he (.glo "_law_alone_right"),
  .he (.glo "_law_gains"),
  .he (.glo "_law_known"),
  .he (.glo "_law_tap"),
  .kit "NoneType" "Row" false,
  .kit "bool" "Row" false,
  .kit "int" "Row" false,
  .kit "str" "Row" false,
  .kit "list" "Row" false,
  .kit "tuple" "Row" false,
  .kitT "Row" "NoneType" false,
  .kitT "Row" "bool" false,
  .kitT "Row" "int" false,
  .kitT "Row" "str" false,
  .kitT "Row" "list" false,
  .kitT "Row" "tuple" false,
  .kitO "Row" "Row" true]
structure Bd (K : PySem.W.Frag) (mg : Str → Option Value) : Prop where
  ex : ∃ h : Heap, K.In h ∧ h.Ns mainGlobals mg ∧ SaysB fa fn K
section
variable {K : PySem.W.Frag} {mg : Str → Option Value}
theorem g_range (b : Bd K mg) : mg "range" = none := by
  obtain ⟨h, X, G, c⟩ := b.ex
  exact He.free_ok X G (c.fact 0 (f := .he (.free "range")) rfl)
theorem n_Row (b : Bd K mg) : mg "Row" = some (.ref (He.ga K "Row")) := by
  obtain ⟨h, X, G, c⟩ := b.ex
  exact He.glo_ok X G (c.fact 1 (f := .he (.glo "Row")) rfl)
theorem g_isinstance (b : Bd K mg) : mg "isinstance" = none := by
  obtain ⟨h, X, G, c⟩ := b.ex
  exact He.free_ok X G (c.fact 2 (f := .he (.free "isinstance")) rfl)
theorem nf_tuple_Row (b : Bd K mg) : PySem.W.notFirst K (He.ga K "Row") (.type "tuple") = true := by
  obtain ⟨h, X, G, c⟩ := b.ex
  exact c.fact 3 (f := .nf "tuple" "Row") rfl
theorem nf_list_Row (b : Bd K mg) : PySem.W.notFirst K (He.ga K "Row") (.type "list") = true := by
  obtain ⟨h, X, G, c⟩ := b.ex
  exact c.fact 4 (f := .nf "list" "Row") rfl
theorem nf_str_Row (b : Bd K mg) : PySem.W.notFirst K (He.ga K "Row") (.type "str") = true := by
  obtain ⟨h, X, G, c⟩ := b.ex
  exact c.fact 5 (f := .nf "str" "Row") rfl
theorem nf_int_Row (b : Bd K mg) : PySem.W.notFirst K (He.ga K "Row") (.type "int") = true := by
  obtain ⟨h, X, G, c⟩ := b.ex
  exact c.fact 6 (f := .nf "int" "Row") rfl
theorem nf_bool_Row (b : Bd K mg) : PySem.W.notFirst K (He.ga K "Row") (.type "bool") = true := by
  obtain ⟨h, X, G, c⟩ := b.ex
  exact c.fact 7 (f := .nf "bool" "Row") rfl
theorem nf_NoneType_Row (b : Bd K mg) : PySem.W.notFirst K (He.ga K "Row") (.type "NoneType") = true := by
  obtain ⟨h, X, G, c⟩ := b.ex
  exact c.fact 8 (f := .nf "NoneType" "Row") rfl
theorem nfO_Row_Row (b : Bd K mg) : PySem.W.notFirst K (He.ga K "Row") (.ref (He.ga K "Row")) = true := by
  obtain ⟨h, X, G, c⟩ := b.ex
  exact c.fact 9 (f := .nfO "Row" "Row") rfl
theorem spm_Row_eq (b : Bd K mg) : Spm K (He.ga K "Row") "__eq__" (ad K (.meth "Row" "__eq__")) := by
  obtain ⟨h, X, G, c⟩ := b.ex
  exact spm_ok (c.fact 10 (f := .spm "Row" "__eq__") rfl)
theorem g_max (b : Bd K mg) : mg "max" = none := by
  obtain ⟨h, X, G, c⟩ := b.ex
  exact He.free_ok X G (c.fact 11 (f := .he (.free "max")) rfl)
theorem g_min (b : Bd K mg) : mg "min" = none := by
  obtain ⟨h, X, G, c⟩ := b.ex
  exact He.free_ok X G (c.fact 12 (f := .he (.free "min")) rfl)
theorem k_FLAT (b : Bd K mg) : ∃ t, mg "FLAT" = some (.str "flat" t) := by
  obtain ⟨h, X, G, c⟩ := b.ex
  exact He.str_ok X G (c.fact 13 (f := .he (.str "FLAT" "flat")) rfl)
theorem k_MIXED (b : Bd K mg) : ∃ t, mg "MIXED" = some (.str "mixed" t) := by
  obtain ⟨h, X, G, c⟩ := b.ex
  exact He.str_ok X G (c.fact 14 (f := .he (.str "MIXED" "mixed")) rfl)
theorem k_LOSES (b : Bd K mg) : ∃ t, mg "LOSES" = some (.str "loses" t) := by
  obtain ⟨h, X, G, c⟩ := b.ex
  exact He.str_ok X G (c.fact 15 (f := .he (.str "LOSES" "loses")) rfl)
theorem k_GAINS (b : Bd K mg) : ∃ t, mg "GAINS" = some (.str "gains" t) := by
  obtain ⟨h, X, G, c⟩ := b.ex
  exact He.str_ok X G (c.fact 16 (f := .he (.str "GAINS" "gains")) rfl)
theorem g_zip (b : Bd K mg) : mg "zip" = none := by
  obtain ⟨h, X, G, c⟩ := b.ex
  exact He.free_ok X G (c.fact 17 (f := .he (.free "zip")) rfl)
theorem g_tuple (b : Bd K mg) : mg "tuple" = none := by
  obtain ⟨h, X, G, c⟩ := b.ex
  exact He.free_ok X G (c.fact 18 (f := .he (.free "tuple")) rfl)
theorem n_sums_in (b : Bd K mg) : mg "sums_in" = some (.ref (He.ga K "sums_in")) := by
  obtain ⟨h, X, G, c⟩ := b.ex
  exact He.glo_ok X G (c.fact 19 (f := .he (.glo "sums_in")) rfl)
theorem n_word_of (b : Bd K mg) : mg "word_of" = some (.ref (He.ga K "word_of")) := by
  obtain ⟨h, X, G, c⟩ := b.ex
  exact He.glo_ok X G (c.fact 20 (f := .he (.glo "word_of")) rfl)
theorem n_need_row (b : Bd K mg) : mg "need_row" = some (.ref (He.ga K "need_row")) := by
  obtain ⟨h, X, G, c⟩ := b.ex
  exact He.glo_ok X G (c.fact 21 (f := .he (.glo "need_row")) rfl)
theorem n_table_words (b : Bd K mg) : mg "table_words" = some (.ref (He.ga K "table_words")) := by
  obtain ⟨h, X, G, c⟩ := b.ex
  exact He.glo_ok X G (c.fact 22 (f := .he (.glo "table_words")) rfl)
theorem nem_Row (b : Bd K mg) : Nem K (He.ga K "Row") := by
  obtain ⟨h, X, G, c⟩ := b.ex
  exact nem_ok (c.fact 23 (f := .nem "Row") rfl)
theorem g_bool (b : Bd K mg) : mg "bool" = none := by
  obtain ⟨h, X, G, c⟩ := b.ex
  exact He.free_ok X G (c.fact 24 (f := .he (.free "bool")) rfl)
theorem g_int (b : Bd K mg) : mg "int" = none := by
  obtain ⟨h, X, G, c⟩ := b.ex
  exact He.free_ok X G (c.fact 25 (f := .he (.free "int")) rfl)
theorem n_is_integer (b : Bd K mg) : mg "is_integer" = some (.ref (He.ga K "is_integer")) := by
  obtain ⟨h, X, G, c⟩ := b.ex
  exact He.glo_ok X G (c.fact 26 (f := .he (.glo "is_integer")) rfl)
theorem n_is_within (b : Bd K mg) : mg "is_within" = some (.ref (He.ga K "is_within")) := by
  obtain ⟨h, X, G, c⟩ := b.ex
  exact He.glo_ok X G (c.fact 27 (f := .he (.glo "is_within")) rfl)
theorem n_need_number (b : Bd K mg) : mg "need_number" = some (.ref (He.ga K "need_number")) := by
  obtain ⟨h, X, G, c⟩ := b.ex
  exact He.glo_ok X G (c.fact 28 (f := .he (.glo "need_number")) rfl)
theorem n_need_length (b : Bd K mg) : mg "need_length" = some (.ref (He.ga K "need_length")) := by
  obtain ⟨h, X, G, c⟩ := b.ex
  exact He.glo_ok X G (c.fact 29 (f := .he (.glo "need_length")) rfl)
theorem n_sort_of (b : Bd K mg) : mg "sort_of" = some (.ref (He.ga K "sort_of")) := by
  obtain ⟨h, X, G, c⟩ := b.ex
  exact He.glo_ok X G (c.fact 30 (f := .he (.glo "sort_of")) rfl)
theorem n_sums (b : Bd K mg) : mg "sums" = some (.ref (He.ga K "sums")) := by
  obtain ⟨h, X, G, c⟩ := b.ex
  exact He.glo_ok X G (c.fact 31 (f := .he (.glo "sums")) rfl)
theorem na_Row_total (b : Bd K mg) : NoAttr K (He.ga K "Row") "total" := by
  obtain ⟨h, X, G, c⟩ := b.ex
  exact He.noat_ok (c.fact 32 (f := .he (.noat "Row" "total")) rfl)
theorem g_len (b : Bd K mg) : mg "len" = none := by
  obtain ⟨h, X, G, c⟩ := b.ex
  exact He.free_ok X G (c.fact 33 (f := .he (.free "len")) rfl)
theorem na_Row_days (b : Bd K mg) : NoAttr K (He.ga K "Row") "days" := by
  obtain ⟨h, X, G, c⟩ := b.ex
  exact He.noat_ok (c.fact 34 (f := .he (.noat "Row" "days")) rfl)
theorem n_heights_of (b : Bd K mg) : mg "heights_of" = some (.ref (He.ga K "heights_of")) := by
  obtain ⟨h, X, G, c⟩ := b.ex
  exact He.glo_ok X G (c.fact 35 (f := .he (.glo "heights_of")) rfl)
theorem na_Row_heights (b : Bd K mg) : NoAttr K (He.ga K "Row") "heights" := by
  obtain ⟨h, X, G, c⟩ := b.ex
  exact He.noat_ok (c.fact 36 (f := .he (.noat "Row" "heights")) rfl)
theorem na_Row_gains (b : Bd K mg) : NoAttr K (He.ga K "Row") "gains" := by
  obtain ⟨h, X, G, c⟩ := b.ex
  exact He.noat_ok (c.fact 37 (f := .he (.noat "Row" "gains")) rfl)
theorem k_MOST_DAYS (b : Bd K mg) : ∃ t, mg "MOST_DAYS" = some (.int (48) t) := by
  obtain ⟨h, X, G, c⟩ := b.ex
  exact He.int_ok X G (c.fact 38 (f := .he (.int "MOST_DAYS" (48))) rfl)
theorem g_all (b : Bd K mg) : mg "all" = none := by
  obtain ⟨h, X, G, c⟩ := b.ex
  exact He.free_ok X G (c.fact 39 (f := .he (.free "all")) rfl)
theorem g_list (b : Bd K mg) : mg "list" = none := by
  obtain ⟨h, X, G, c⟩ := b.ex
  exact He.free_ok X G (c.fact 40 (f := .he (.free "list")) rfl)
theorem n_are_integers (b : Bd K mg) : mg "are_integers" = some (.ref (He.ga K "are_integers")) := by
  obtain ⟨h, X, G, c⟩ := b.ex
  exact He.glo_ok X G (c.fact 41 (f := .he (.glo "are_integers")) rfl)
theorem cl_Row (b : Bd K mg) : Cls K (He.ga K "Row") := by
  obtain ⟨h, X, G, c⟩ := b.ex
  exact He.cls_ok (c.fact 42 (f := .he (.cls "Row")) rfl)
theorem ty_Row (b : Bd K mg) : Tyi K (He.ga K "Row") := by
  obtain ⟨h, X, G, c⟩ := b.ex
  exact tyi_ok (c.fact 42 (f := .he (.cls "Row")) rfl) (c.fact 43 (f := .tyi "Row") rfl)
theorem mk_Row (b : Bd K mg) : Mk K (He.ga K "Row") (ad K (.meth "Row" "__init__")) := by
  obtain ⟨h, X, G, c⟩ := b.ex
  exact He.mkr_ok (c.fact 44 (f := .he (.mkr "Row")) rfl)
theorem me_Row_joined (b : Bd K mg) : Meth K (He.ga K "Row") "joined" (ad K (.meth "Row" "joined")) := by
  obtain ⟨h, X, G, c⟩ := b.ex
  exact He.meth_ok (c.fact 45 (f := .he (.meth "Row" "joined")) rfl)
theorem g_sum (b : Bd K mg) : mg "sum" = none := by
  obtain ⟨h, X, G, c⟩ := b.ex
  exact He.free_ok X G (c.fact 46 (f := .he (.free "sum")) rfl)
theorem spm_Row_len (b : Bd K mg) : Spm K (He.ga K "Row") "__len__" (ad K (.meth "Row" "__len__")) := by
  obtain ⟨h, X, G, c⟩ := b.ex
  exact spm_ok (c.fact 47 (f := .spm "Row" "__len__") rfl)
theorem n_law_twice_right (b : Bd K mg) : mg "_law_twice_right" = some (.ref (He.ga K "_law_twice_right")) := by
  obtain ⟨h, X, G, c⟩ := b.ex
  exact He.glo_ok X G (c.fact 48 (f := .he (.glo "_law_twice_right")) rfl)
theorem g_enumerate (b : Bd K mg) : mg "enumerate" = none := by
  obtain ⟨h, X, G, c⟩ := b.ex
  exact He.free_ok X G (c.fact 49 (f := .he (.free "enumerate")) rfl)
theorem n_law_sums (b : Bd K mg) : mg "_law_sums" = some (.ref (He.ga K "_law_sums")) := by
  obtain ⟨h, X, G, c⟩ := b.ex
  exact He.glo_ok X G (c.fact 50 (f := .he (.glo "_law_sums")) rfl)
theorem n_law_word (b : Bd K mg) : mg "_law_word" = some (.ref (He.ga K "_law_word")) := by
  obtain ⟨h, X, G, c⟩ := b.ex
  exact He.glo_ok X G (c.fact 51 (f := .he (.glo "_law_word")) rfl)
theorem n_law_words (b : Bd K mg) : mg "_law_words" = some (.ref (He.ga K "_law_words")) := by
  obtain ⟨h, X, G, c⟩ := b.ex
  exact He.glo_ok X G (c.fact 52 (f := .he (.glo "_law_words")) rfl)
theorem n_law_joined_right (b : Bd K mg) : mg "_law_joined_right" = some (.ref (He.ga K "_law_joined_right")) := by
  obtain ⟨h, X, G, c⟩ := b.ex
  exact He.glo_ok X G (c.fact 53 (f := .he (.glo "_law_joined_right")) rfl)
theorem me_Row_added (b : Bd K mg) : Meth K (He.ga K "Row") "added" (ad K (.meth "Row" "added")) := by
  obtain ⟨h, X, G, c⟩ := b.ex
  exact He.meth_ok (c.fact 54 (f := .he (.meth "Row" "added")) rfl)
theorem n_law_added_right (b : Bd K mg) : mg "_law_added_right" = some (.ref (He.ga K "_law_added_right")) := by
  obtain ⟨h, X, G, c⟩ := b.ex
  exact He.glo_ok X G (c.fact 55 (f := .he (.glo "_law_added_right")) rfl)
theorem me_Row_plus (b : Bd K mg) : Meth K (He.ga K "Row") "plus" (ad K (.meth "Row" "plus")) := by
  obtain ⟨h, X, G, c⟩ := b.ex
  exact He.meth_ok (c.fact 56 (f := .he (.meth "Row" "plus")) rfl)
theorem g_abs (b : Bd K mg) : mg "abs" = none := by
  obtain ⟨h, X, G, c⟩ := b.ex
  exact He.free_ok X G (c.fact 57 (f := .he (.free "abs")) rfl)
theorem n_law_drip (b : Bd K mg) : mg "_law_drip" = some (.ref (He.ga K "_law_drip")) := by
  obtain ⟨h, X, G, c⟩ := b.ex
  exact He.glo_ok X G (c.fact 58 (f := .he (.glo "_law_drip")) rfl)
theorem n_law_any (b : Bd K mg) : mg "_law_any" = some (.ref (He.ga K "_law_any")) := by
  obtain ⟨h, X, G, c⟩ := b.ex
  exact He.glo_ok X G (c.fact 59 (f := .he (.glo "_law_any")) rfl)
theorem me_Row_times (b : Bd K mg) : Meth K (He.ga K "Row") "times" (ad K (.meth "Row" "times")) := by
  obtain ⟨h, X, G, c⟩ := b.ex
  exact He.meth_ok (c.fact 60 (f := .he (.meth "Row" "times")) rfl)
theorem me_Row_backwards (b : Bd K mg) : Meth K (He.ga K "Row") "backwards" (ad K (.meth "Row" "backwards")) := by
  obtain ⟨h, X, G, c⟩ := b.ex
  exact He.meth_ok (c.fact 61 (f := .he (.meth "Row" "backwards")) rfl)
theorem n_law_alone_right (b : Bd K mg) : mg "_law_alone_right" = some (.ref (He.ga K "_law_alone_right")) := by
  obtain ⟨h, X, G, c⟩ := b.ex
  exact He.glo_ok X G (c.fact 62 (f := .he (.glo "_law_alone_right")) rfl)
theorem n_law_gains (b : Bd K mg) : mg "_law_gains" = some (.ref (He.ga K "_law_gains")) := by
  obtain ⟨h, X, G, c⟩ := b.ex
  exact He.glo_ok X G (c.fact 63 (f := .he (.glo "_law_gains")) rfl)
theorem n_law_known (b : Bd K mg) : mg "_law_known" = some (.ref (He.ga K "_law_known")) := by
  obtain ⟨h, X, G, c⟩ := b.ex
  exact He.glo_ok X G (c.fact 64 (f := .he (.glo "_law_known")) rfl)
theorem n_law_tap (b : Bd K mg) : mg "_law_tap" = some (.ref (He.ga K "_law_tap")) := by
  obtain ⟨h, X, G, c⟩ := b.ex
  exact He.glo_ok X G (c.fact 65 (f := .he (.glo "_law_tap")) rfl)
theorem kit_NoneType_Row (b : Bd K mg) : PySem.W.kitOne K (.type "NoneType") (.ref (He.ga K "Row")) = some false := by
  obtain ⟨h, X, G, c⟩ := b.ex
  exact of_decide_eq_true (c.fact 66 (f := .kit "NoneType" "Row" false) rfl)
theorem kit_bool_Row (b : Bd K mg) : PySem.W.kitOne K (.type "bool") (.ref (He.ga K "Row")) = some false := by
  obtain ⟨h, X, G, c⟩ := b.ex
  exact of_decide_eq_true (c.fact 67 (f := .kit "bool" "Row" false) rfl)
theorem kit_int_Row (b : Bd K mg) : PySem.W.kitOne K (.type "int") (.ref (He.ga K "Row")) = some false := by
  obtain ⟨h, X, G, c⟩ := b.ex
  exact of_decide_eq_true (c.fact 68 (f := .kit "int" "Row" false) rfl)
theorem kit_str_Row (b : Bd K mg) : PySem.W.kitOne K (.type "str") (.ref (He.ga K "Row")) = some false := by
  obtain ⟨h, X, G, c⟩ := b.ex
  exact of_decide_eq_true (c.fact 69 (f := .kit "str" "Row" false) rfl)
theorem kit_list_Row (b : Bd K mg) : PySem.W.kitOne K (.type "list") (.ref (He.ga K "Row")) = some false := by
  obtain ⟨h, X, G, c⟩ := b.ex
  exact of_decide_eq_true (c.fact 70 (f := .kit "list" "Row" false) rfl)
theorem kit_tuple_Row (b : Bd K mg) : PySem.W.kitOne K (.type "tuple") (.ref (He.ga K "Row")) = some false := by
  obtain ⟨h, X, G, c⟩ := b.ex
  exact of_decide_eq_true (c.fact 71 (f := .kit "tuple" "Row" false) rfl)
theorem kitT_Row_NoneType (b : Bd K mg) : PySem.W.kitOne K (.ref (He.ga K "Row")) (.type "NoneType") = some false := by
  obtain ⟨h, X, G, c⟩ := b.ex
  exact of_decide_eq_true (c.fact 72 (f := .kitT "Row" "NoneType" false) rfl)
theorem kitT_Row_bool (b : Bd K mg) : PySem.W.kitOne K (.ref (He.ga K "Row")) (.type "bool") = some false := by
  obtain ⟨h, X, G, c⟩ := b.ex
  exact of_decide_eq_true (c.fact 73 (f := .kitT "Row" "bool" false) rfl)
theorem kitT_Row_int (b : Bd K mg) : PySem.W.kitOne K (.ref (He.ga K "Row")) (.type "int") = some false := by
  obtain ⟨h, X, G, c⟩ := b.ex
  exact of_decide_eq_true (c.fact 74 (f := .kitT "Row" "int" false) rfl)
theorem kitT_Row_str (b : Bd K mg) : PySem.W.kitOne K (.ref (He.ga K "Row")) (.type "str") = some false := by
  obtain ⟨h, X, G, c⟩ := b.ex
  exact of_decide_eq_true (c.fact 75 (f := .kitT "Row" "str" false) rfl)
theorem kitT_Row_list (b : Bd K mg) : PySem.W.kitOne K (.ref (He.ga K "Row")) (.type "list") = some false := by
  obtain ⟨h, X, G, c⟩ := b.ex
  exact of_decide_eq_true (c.fact 76 (f := .kitT "Row" "list" false) rfl)
theorem kitT_Row_tuple (b : Bd K mg) : PySem.W.kitOne K (.ref (He.ga K "Row")) (.type "tuple") = some false := by
  obtain ⟨h, X, G, c⟩ := b.ex
  exact of_decide_eq_true (c.fact 77 (f := .kitT "Row" "tuple" false) rfl)
theorem kitO_Row_Row (b : Bd K mg) : PySem.W.kitOne K (.ref (He.ga K "Row")) (.ref (He.ga K "Row")) = some true := by
  obtain ⟨h, X, G, c⟩ := b.ex
  exact of_decide_eq_true (c.fact 78 (f := .kitO "Row" "Row" true) rfl)
end
abbrev GoodF (P : Program) (w : World) (K : PySem.W.Frag) (mg : Str → Option Value) (base : Heap) (k : Nat) (d : Df) (ps : List Str) (sp : Sp) : Prop := ∃ fd, FnOk P w K mg base CX0 k (ad K d.loc) fd ps sp ∧ FunD K d.name d.qual d.params d.body d.scope [] [] (ad K d.loc) fd
section
variable {P : Program} {w : World} {K : PySem.W.Frag} {mg : Str → Option Value} {base : Heap}
theorem sc_Row_eq : FnScope N_Row_eq ["self", "other"] (defScope st_Row_eq) := ⟨rfl, rfl, rfl, by decide +kernel, rfl, by decide +kernel, by decide +kernel⟩
theorem ok_Row_eq (b : Bd K mg)  : GoodF P w K mg base 1 d_Row_eq ["self", "other"] (sp_Row_eq K w) := by
  obtain ⟨h, X, G, c⟩ := b.ex
  obtain ⟨fd, F⟩ := c.def_ 0 (d := d_Row_eq) rfl
  have nd : (N_Row_eq).Nodup := sc_Row_eq.nd
  refine ⟨fd, F.ok sc_Row_eq (fun vs H Q E h => h.1) (fun cdv A outer s H vs Q E hr h => ⟨t_Row_eq K w, PSs.nox ?_, h.2⟩), F⟩
  exact (pss_one (ps_ret (pe_andT (pe_callB cg_isi (by rfl) (g_isinstance b) (by decide +kernel) (pa_cons (pv 1) (pa_cons (pe_glob (by rfl) (n_Row b) rfl) pa_nil))) (pe_one (pe_cmpR (og_eq hr.units) (pe_fld (pv 0) rfl) (pe_fld (pv 1) rfl) (nomark _))))))
theorem sc_word_of : FnScope N_word_of ["told"] (defScope st_word_of) := ⟨rfl, rfl, rfl, by decide +kernel, rfl, by decide +kernel, by decide +kernel⟩
theorem ok_word_of (b : Bd K mg)  : GoodF P w K mg base 1 d_word_of ["told"] (sp_word_of K w) := by
  obtain ⟨h, X, G, c⟩ := b.ex
  obtain ⟨fd, F⟩ := c.def_ 1 (d := d_word_of) rfl
  have nd : (N_word_of).Nodup := sc_word_of.nd
  refine ⟨fd, F.ok sc_word_of (fun vs H Q E h => h.1) (fun cdv A outer s H vs Q E hr h => ⟨t_word_of K w, PSs.nox ?_, h.2⟩), F⟩
  exact (pss_cons (ps_if (pt_cmpR og_gt (pe_callB (cg_minT rfl hr.units) (by rfl) (g_min b) (by decide +kernel) (pa_cons (pv 0) pa_nil)) pe_int (nomark _)) (pss_one (ps_ret (pe_glob (by rfl) (k_GAINS b).choose_spec ⟨_, rfl⟩))) pss_nil)
  (pss_cons (ps_if (pt_cmpR (og_lt hr.units0) (pe_callB (cg_maxT rfl hr.units) (by rfl) (g_max b) (by decide +kernel) (pa_cons (pv 0) pa_nil)) pe_int (nomark _)) (pss_one (ps_ret (pe_glob (by rfl) (k_LOSES b).choose_spec ⟨_, rfl⟩))) pss_nil)
  (pss_one (ps_ret (pe_ifExp (PW.pt (pw_and (pt_cmpR (og_eq hr.units) (pe_callB (cg_minT rfl hr.units) (by rfl) (g_min b) (by decide +kernel) (pa_cons (pv 0) pa_nil)) pe_int (nomark _)) (pw_and1 (pt_cmpR (og_eq hr.units) (pe_callB (cg_maxT rfl hr.units) (by rfl) (g_max b) (by decide +kernel) (pa_cons (pv 0) pa_nil)) pe_int (nomark _))))) (pe_glob (by rfl) (k_FLAT b).choose_spec ⟨_, rfl⟩) (pe_glob (by rfl) (k_MIXED b).choose_spec ⟨_, rfl⟩))))))
theorem sc_sums_in : FnScope N_sums_in ["row", "length"] (defScope st_sums_in) := ⟨rfl, rfl, rfl, by decide +kernel, rfl, by decide +kernel, by decide +kernel⟩
theorem ok_sums_in (b : Bd K mg)  : GoodF P w K mg base 1 d_sums_in ["row", "length"] (sp_sums_in K w) := by
  obtain ⟨h, X, G, c⟩ := b.ex
  obtain ⟨fd, F⟩ := c.def_ 2 (d := d_sums_in) rfl
  have nd : (N_sums_in).Nodup := sc_sums_in.nd
  refine ⟨fd, F.ok sc_sums_in (fun vs H Q E h => h.1) (fun cdv A outer s H vs Q E hr h => ⟨t_sums_in K w, PSs.nox ?_, h.2⟩), F⟩
  exact (pss_one (ps_ret (pe_callTy cg_tuple (by rfl) (g_tuple b) boot_tuple (pa_cons (pe_lc (own := [("ahead", 2), ("behind", 3)]) (g := (gTup K 2 (gCons (gName 2) (gCons (gName 3) gNil)))) (tt := tYes) (by rfl) nd (pi_zipA (by rfl) (g_zip b) (pa_cons (pe_fld (pv 0) rfl) (pa_cons (pe_slice sg_all (pe_fld (pv 0) rfl) (po_some (pv 1)) po_none) pa_nil))) (blkOk_by (N := ["row", "length", "ahead", "behind"]) (sc := defScope st_sums_in) (by decide +kernel)) (fun _ _ _ _ _ => (pg_tup rfl (pgs_cons (pg_name (i := 2) nd rfl (Or.inl rfl)) (pgs_cons (pg_name (i := 3) nd rfl (Or.inl rfl)) pgs_nil)))) (fun _ _ _ _ _ => pts_nil) (fun _ _ _ _ _ => (pe_op og_sub (pv 3) (pv 2)))) pa_nil))))
theorem sc_need_row : FnScope N_need_row ["value", "part"] (defScope st_need_row) := ⟨rfl, rfl, rfl, by decide +kernel, rfl, by decide +kernel, by decide +kernel⟩
theorem ok_need_row (b : Bd K mg)  : GoodF P w K mg base 1 d_need_row ["value", "part"] (sp_need_row K w) := by
  obtain ⟨h, X, G, c⟩ := b.ex
  obtain ⟨fd, F⟩ := c.def_ 3 (d := d_need_row) rfl
  have nd : (N_need_row).Nodup := sc_need_row.nd
  refine ⟨fd, F.ok sc_need_row (fun vs H Q E h => h.1) (fun cdv A outer s H vs Q E hr h => ⟨t_need_row K w, PSs.nox ?_, h.2⟩), F⟩
  exact (pss_one (ps_if (pt_not (pt_truth (pe_callB cg_isi (by rfl) (g_isinstance b) (by decide +kernel) (pa_cons (pv 0) (pa_cons (pe_glob (by rfl) (n_Row b) rfl) pa_nil))) (by intro _; rfl))) (pss_one ps_never) pss_nil))
theorem sc_table_words : FnScope N_table_words ["row"] (defScope st_table_words) := ⟨rfl, rfl, rfl, by decide +kernel, rfl, by decide +kernel, by decide +kernel⟩
theorem ok_table_words (b : Bd K mg) (h_word_of : GoodF P w K mg base 1 d_word_of ["told"] (sp_word_of K w)) (h_sums_in : GoodF P w K mg base 1 d_sums_in ["row", "length"] (sp_sums_in K w)) (h_need_row : GoodF P w K mg base 1 d_need_row ["value", "part"] (sp_need_row K w)) : GoodF P w K mg base 2 d_table_words ["row"] (sp_table_words K w) := by
  obtain ⟨_, G_word_of, F_word_of⟩ := h_word_of
  obtain ⟨_, G_sums_in, F_sums_in⟩ := h_sums_in
  obtain ⟨_, G_need_row, F_need_row⟩ := h_need_row
  obtain ⟨h, X, G, c⟩ := b.ex
  obtain ⟨fd, F⟩ := c.def_ 4 (d := d_table_words) rfl
  have nd : (N_table_words).Nodup := sc_table_words.nd
  refine ⟨fd, F.ok sc_table_words (fun vs H Q E h => h.1) (fun cdv A outer s H vs Q E hr h => ⟨t_table_words K w, PSs.nox ?_, h.2⟩), F⟩
  exact (pss_cons (ps_expr (pe_fn G_need_row (hr.mono (by decide)) (by rfl) (n_need_row b) F_need_row.kp (bindsP F_need_row fun _ _ _ _ _ _ us hl => match us, hl with | [_, _], _ => rfl) pass0 (pc_p (pa_cons (pv 0) (pa_cons pe_str pa_nil)))))
  (pss_one (ps_ret (pe_callTy cg_tuple (by rfl) (g_tuple b) boot_tuple (pa_cons (pe_lc (own := [("length", 1)]) (g := (gName 1)) (tt := tYes) (by rfl) nd (pi_range2 (by rfl) (g_range b) (pa_cons pe_int (pa_cons (pe_op og_add (pe_fld (pv 0) rfl) pe_int) pa_nil))) (blkOk_by (N := ["row", "length"]) (sc := defScope st_table_words) (by decide +kernel)) (fun _ _ _ _ _ => (pg_name (i := 1) nd rfl (Or.inl rfl))) (fun _ _ _ _ _ => pts_nil) (fun _ _ _ _ _ => (pe_fn G_word_of (hr.mono (by decide)) (by rfl) (n_word_of b) F_word_of.kp (bindsP F_word_of fun _ _ _ _ _ _ us hl => match us, hl with | [_], _ => rfl) pass0 (pc_p (pa_cons (pe_fn G_sums_in (hr.mono (by decide)) (by rfl) (n_sums_in b) F_sums_in.kp (bindsP F_sums_in fun _ _ _ _ _ _ us hl => match us, hl with | [_, _], _ => rfl) pass0 (pc_p (pa_cons (pv 0) (pa_cons (pv 1) pa_nil)))) pa_nil))))) pa_nil)))))
theorem sc_is_integer : FnScope N_is_integer ["value"] (defScope st_is_integer) := ⟨rfl, rfl, rfl, by decide +kernel, rfl, by decide +kernel, by decide +kernel⟩
theorem ok_is_integer (b : Bd K mg)  : GoodF P w K mg base 1 d_is_integer ["value"] (sp_is_integer K w) := by
  obtain ⟨h, X, G, c⟩ := b.ex
  obtain ⟨fd, F⟩ := c.def_ 5 (d := d_is_integer) rfl
  have nd : (N_is_integer).Nodup := sc_is_integer.nd
  refine ⟨fd, F.ok sc_is_integer (fun vs H Q E h => h.1) (fun cdv A outer s H vs Q E hr h => ⟨t_is_integer K w, PSs.nox ?_, h.2⟩), F⟩
  exact (pss_one (ps_ret (pe_andT (pe_callB cg_isi (by rfl) (g_isinstance b) (by decide +kernel) (pa_cons (pv 0) (pa_cons (pe_bltn (v := .ty "int") (by rfl) (g_int b) (by decide +kernel) rfl) pa_nil))) (pe_one (pe_notT (pe_callB cg_isi (by rfl) (g_isinstance b) (by decide +kernel) (pa_cons (pv 0) (pa_cons (pe_bltn (v := .ty "bool") (by rfl) (g_bool b) (by decide +kernel) rfl) pa_nil))))))))
theorem sc_is_within : FnScope N_is_within ["value", "least", "most"] (defScope st_is_within) := ⟨rfl, rfl, rfl, by decide +kernel, rfl, by decide +kernel, by decide +kernel⟩
theorem ok_is_within (b : Bd K mg) (h_is_integer : GoodF P w K mg base 1 d_is_integer ["value"] (sp_is_integer K w)) : GoodF P w K mg base 2 d_is_within ["value", "least", "most"] (sp_is_within K w) := by
  obtain ⟨_, G_is_integer, F_is_integer⟩ := h_is_integer
  obtain ⟨h, X, G, c⟩ := b.ex
  obtain ⟨fd, F⟩ := c.def_ 6 (d := d_is_within) rfl
  have nd : (N_is_within).Nodup := sc_is_within.nd
  refine ⟨fd, F.ok sc_is_within (fun vs H Q E h => h.1) (fun cdv A outer s H vs Q E hr h => ⟨t_is_within K w, PSs.nox ?_, h.2⟩), F⟩
  exact (pss_cons (ps_if (pt_not (pt_truth (pe_fn G_is_integer (hr.mono (by decide)) (by rfl) (n_is_integer b) F_is_integer.kp (bindsP F_is_integer fun _ _ _ _ _ _ us hl => match us, hl with | [_], _ => rfl) pass0 (pc_p (pa_cons (pv 0) pa_nil))) (by intro _; rfl))) (pss_one (ps_ret pe_bl)) pss_nil)
  (pss_one (ps_ret (pe_andT (pe_orT (pe_cmpR og_is (pv 1) pe_non (nomark _)) (pe_one (pe_cmpR og_le (pv 1) (pv 0) (nomark _)))) (pe_one (pe_orT (pe_cmpR og_is (pv 2) pe_non (nomark _)) (pe_one (pe_cmpR og_le (pv 0) (pv 2) (nomark _)))))))))
theorem sc_need_number : FnScope N_need_number ["value", "part", "least", "most"] (defScope st_need_number) := ⟨rfl, rfl, rfl, by decide +kernel, rfl, by decide +kernel, by decide +kernel⟩
theorem ok_need_number (b : Bd K mg) (h_is_within : GoodF P w K mg base 2 d_is_within ["value", "least", "most"] (sp_is_within K w)) : GoodF P w K mg base 3 d_need_number ["value", "part", "least", "most"] (sp_need_number K w) := by
  obtain ⟨_, G_is_within, F_is_within⟩ := h_is_within
  obtain ⟨h, X, G, c⟩ := b.ex
  obtain ⟨fd, F⟩ := c.def_ 7 (d := d_need_number) rfl
  have nd : (N_need_number).Nodup := sc_need_number.nd
  refine ⟨fd, F.ok sc_need_number (fun vs H Q E h => h.1) (fun cdv A outer s H vs Q E hr h => ⟨t_need_number K w, PSs.nox ?_, h.2⟩), F⟩
  exact (pss_one (ps_if (pt_not (pt_truth (pe_fn G_is_within (hr.mono (by decide)) (by rfl) (n_is_within b) F_is_within.kp (bindsP F_is_within fun _ _ _ _ _ _ us hl => match us, hl with | [_, _, _], _ => rfl) pass0 (pc_p (pa_cons (pv 0) (pa_cons (pv 2) (pa_cons (pv 3) pa_nil))))) (by intro _; rfl))) (pss_one ps_never) pss_nil))
theorem sc_need_length : FnScope N_need_length ["row", "length"] (defScope st_need_length) := ⟨rfl, rfl, rfl, by decide +kernel, rfl, by decide +kernel, by decide +kernel⟩
theorem ok_need_length (b : Bd K mg) (h_need_number : GoodF P w K mg base 3 d_need_number ["value", "part", "least", "most"] (sp_need_number K w)) (h_need_row : GoodF P w K mg base 1 d_need_row ["value", "part"] (sp_need_row K w)) : GoodF P w K mg base 4 d_need_length ["row", "length"] (sp_need_length K w) := by
  obtain ⟨_, G_need_number, F_need_number⟩ := h_need_number
  obtain ⟨_, G_need_row, F_need_row⟩ := h_need_row
  obtain ⟨h, X, G, c⟩ := b.ex
  obtain ⟨fd, F⟩ := c.def_ 8 (d := d_need_length) rfl
  have nd : (N_need_length).Nodup := sc_need_length.nd
  refine ⟨fd, F.ok sc_need_length (fun vs H Q E h => h.1) (fun cdv A outer s H vs Q E hr h => ⟨t_need_length K w, PSs.nox ?_, h.2⟩), F⟩
  exact (pss_cons (ps_expr (pe_fn G_need_row (hr.mono (by decide)) (by rfl) (n_need_row b) F_need_row.kp (bindsP F_need_row fun _ _ _ _ _ _ us hl => match us, hl with | [_, _], _ => rfl) pass0 (pc_p (pa_cons (pv 0) (pa_cons pe_str pa_nil)))))
  (pss_one (ps_expr (pe_fn G_need_number (hr.mono (by decide)) (by rfl) (n_need_number b) F_need_number.kp (bindsP F_need_number fun _ _ _ _ _ _ us hl => match us, hl with | [_, _, _, _], _ => rfl) pass0 (pc_p (pa_cons (pv 1) (pa_cons pe_str (pa_cons pe_int (pa_cons (pe_fld (pv 0) rfl) pa_nil)))))))))
theorem sc_sort_of : FnScope N_sort_of ["row", "length"] (defScope st_sort_of) := ⟨rfl, rfl, rfl, by decide +kernel, rfl, by decide +kernel, by decide +kernel⟩
theorem ok_sort_of (b : Bd K mg) (h_word_of : GoodF P w K mg base 1 d_word_of ["told"] (sp_word_of K w)) (h_sums_in : GoodF P w K mg base 1 d_sums_in ["row", "length"] (sp_sums_in K w)) (h_need_length : GoodF P w K mg base 4 d_need_length ["row", "length"] (sp_need_length K w)) : GoodF P w K mg base 5 d_sort_of ["row", "length"] (sp_sort_of K w) := by
  obtain ⟨_, G_word_of, F_word_of⟩ := h_word_of
  obtain ⟨_, G_sums_in, F_sums_in⟩ := h_sums_in
  obtain ⟨_, G_need_length, F_need_length⟩ := h_need_length
  obtain ⟨h, X, G, c⟩ := b.ex
  obtain ⟨fd, F⟩ := c.def_ 9 (d := d_sort_of) rfl
  have nd : (N_sort_of).Nodup := sc_sort_of.nd
  refine ⟨fd, F.ok sc_sort_of (fun vs H Q E h => h.1) (fun cdv A outer s H vs Q E hr h => ⟨t_sort_of K w, PSs.nox ?_, h.2⟩), F⟩
  exact (pss_cons (ps_expr (pe_fn G_need_length (hr.mono (by decide)) (by rfl) (n_need_length b) F_need_length.kp (bindsP F_need_length fun _ _ _ _ _ _ us hl => match us, hl with | [_, _], _ => rfl) pass0 (pc_p (pa_cons (pv 0) (pa_cons (pv 1) pa_nil)))))
  (pss_one (ps_ret (pe_fn G_word_of (hr.mono (by decide)) (by rfl) (n_word_of b) F_word_of.kp (bindsP F_word_of fun _ _ _ _ _ _ us hl => match us, hl with | [_], _ => rfl) pass0 (pc_p (pa_cons (pe_fn G_sums_in (hr.mono (by decide)) (by rfl) (n_sums_in b) F_sums_in.kp (bindsP F_sums_in fun _ _ _ _ _ _ us hl => match us, hl with | [_, _], _ => rfl) pass0 (pc_p (pa_cons (pv 0) (pa_cons (pv 1) pa_nil)))) pa_nil))))))
theorem sc_sums : FnScope N_sums ["row", "length"] (defScope st_sums) := ⟨rfl, rfl, rfl, by decide +kernel, rfl, by decide +kernel, by decide +kernel⟩
theorem ok_sums (b : Bd K mg) (h_sums_in : GoodF P w K mg base 1 d_sums_in ["row", "length"] (sp_sums_in K w)) (h_need_length : GoodF P w K mg base 4 d_need_length ["row", "length"] (sp_need_length K w)) : GoodF P w K mg base 5 d_sums ["row", "length"] (sp_sums K w) := by
  obtain ⟨_, G_sums_in, F_sums_in⟩ := h_sums_in
  obtain ⟨_, G_need_length, F_need_length⟩ := h_need_length
  obtain ⟨h, X, G, c⟩ := b.ex
  obtain ⟨fd, F⟩ := c.def_ 10 (d := d_sums) rfl
  have nd : (N_sums).Nodup := sc_sums.nd
  refine ⟨fd, F.ok sc_sums (fun vs H Q E h => h.1) (fun cdv A outer s H vs Q E hr h => ⟨t_sums K w, PSs.nox ?_, h.2⟩), F⟩
  exact (pss_cons (ps_expr (pe_fn G_need_length (hr.mono (by decide)) (by rfl) (n_need_length b) F_need_length.kp (bindsP F_need_length fun _ _ _ _ _ _ us hl => match us, hl with | [_, _], _ => rfl) pass0 (pc_p (pa_cons (pv 0) (pa_cons (pv 1) pa_nil)))))
  (pss_one (ps_ret (pe_fn G_sums_in (hr.mono (by decide)) (by rfl) (n_sums_in b) F_sums_in.kp (bindsP F_sums_in fun _ _ _ _ _ _ us hl => match us, hl with | [_, _], _ => rfl) pass0 (pc_p (pa_cons (pv 0) (pa_cons (pv 1) pa_nil)))))))
theorem sc_heights_of : FnScope N_heights_of ["gains"] (defScope st_heights_of) := ⟨rfl, rfl, rfl, by decide +kernel, rfl, by decide +kernel, by decide +kernel⟩
theorem ok_heights_of (b : Bd K mg)  : GoodF P w K mg base 1 d_heights_of ["gains"] (sp_heights_of K w) := by
  obtain ⟨h, X, G, c⟩ := b.ex
  obtain ⟨fd, F⟩ := c.def_ 11 (d := d_heights_of) rfl
  have nd : (N_heights_of).Nodup := sc_heights_of.nd
  refine ⟨fd, F.ok sc_heights_of (fun vs H Q E h => h.1) (fun cdv A outer s H vs Q E hr h => ⟨t_heights_of K w, PSs.nox ?_, h.2⟩), F⟩
  exact (pss_cons (ps_set (i := 1) nd rfl (Or.inl rfl) (pe_lst (pa_cons pe_int pa_nil)))
  (pss_cons (ps_for PassesOwn.never rfl (pi_seq (pv 0)) (pg_name (i := 2) nd rfl (Or.inl rfl)) (pss_one (ps_expr (pe_bm PySem.F.plainAttrs_list PySem.F.slot_list_append PySem.F.type_list_append mt_append (pv 1) (pa_cons (pe_op og_add (pe_ix ix_seq (pv 1) (pe_un un_neg pe_int) (fun _ _ => rfl)) (pv 2)) pa_nil)))))
  (pss_one (ps_ret (pe_callTy cg_tuple (by rfl) (g_tuple b) boot_tuple (pa_cons (pv 1) pa_nil))))))
theorem sc_are_integers : FnScope N_are_integers ["value"] (defScope st_are_integers) := ⟨rfl, rfl, rfl, by decide +kernel, rfl, by decide +kernel, by decide +kernel⟩
theorem ok_are_integers (b : Bd K mg) (h_is_integer : GoodF P w K mg base 1 d_is_integer ["value"] (sp_is_integer K w)) : GoodF P w K mg base 2 d_are_integers ["value"] (sp_are_integers K w) := by
  obtain ⟨_, G_is_integer, F_is_integer⟩ := h_is_integer
  obtain ⟨h, X, G, c⟩ := b.ex
  obtain ⟨fd, F⟩ := c.def_ 12 (d := d_are_integers) rfl
  have nd : (N_are_integers).Nodup := sc_are_integers.nd
  refine ⟨fd, F.ok sc_are_integers (fun vs H Q E h => h.1) (fun cdv A outer s H vs Q E hr h => ⟨t_are_integers K w, PSs.nox ?_, h.2⟩), F⟩
  exact (pss_one (ps_ret (pe_andT (pe_callB cg_isi (by rfl) (g_isinstance b) (by decide +kernel) (pa_cons (pv 0) (pa_cons (pe_tup (pa_cons (pe_bltn (v := .ty "list") (by rfl) (g_list b) (by decide +kernel) rfl) (pa_cons (pe_bltn (v := .ty "tuple") (by rfl) (g_tuple b) (by decide +kernel) rfl) pa_nil))) pa_nil))) (pe_one (pe_callB (cg_all rfl) (by rfl) (g_all b) (by decide +kernel) (pa_cons (pe_lc (own := [("each", 1)]) (g := (gName 1)) (tt := tYes) (by rfl) nd (pi_seq (pv 0)) (blkOk_by (N := ["value", "each"]) (sc := defScope st_are_integers) (by decide +kernel)) (fun _ _ _ _ _ => (pg_name (i := 1) nd rfl (Or.inl rfl))) (fun _ _ _ _ _ => pts_nil) (fun _ _ _ _ _ => (pe_fn G_is_integer (hr.mono (by decide)) (by rfl) (n_is_integer b) F_is_integer.kp (bindsP F_is_integer fun _ _ _ _ _ _ us hl => match us, hl with | [_], _ => rfl) pass0 (pc_p (pa_cons (pv 1) pa_nil))))) pa_nil))))))
theorem sc_Row_init : FnScope N_Row_init ["self", "gains"] (defScope st_Row_init) := ⟨rfl, rfl, rfl, by decide +kernel, rfl, by decide +kernel, by decide +kernel⟩
theorem ok_Row_init (b : Bd K mg) (h_heights_of : GoodF P w K mg base 1 d_heights_of ["gains"] (sp_heights_of K w)) (h_are_integers : GoodF P w K mg base 2 d_are_integers ["value"] (sp_are_integers K w)) : GoodF P w K mg base 3 d_Row_init ["self", "gains"] (sp_Row_init K w) := by
  obtain ⟨_, G_heights_of, F_heights_of⟩ := h_heights_of
  obtain ⟨_, G_are_integers, F_are_integers⟩ := h_are_integers
  obtain ⟨h, X, G, c⟩ := b.ex
  obtain ⟨fd, F⟩ := c.def_ 13 (d := d_Row_init) rfl
  have nd : (N_Row_init).Nodup := sc_Row_init.nd
  refine ⟨fd, F.ok sc_Row_init (fun vs H Q E h => h.1) (fun cdv A outer s H vs Q E hr h => ⟨t_Row_init K w, PSs.nox ?_, h.2⟩), F⟩
  exact (pss_cons (ps_if (PW.pt (pw_or (pt_not (pt_truth (pe_fn G_are_integers (hr.mono (by decide)) (by rfl) (n_are_integers b) F_are_integers.kp (bindsP F_are_integers fun _ _ _ _ _ _ us hl => match us, hl with | [_], _ => rfl) pass0 (pc_p (pa_cons (pv 1) pa_nil))) (by intro _; rfl))) (pw_or1 (pt_cmpR (og_eq hr.units) (pe_callB cg_len (by rfl) (g_len b) boot_len (pa_cons (pv 1) pa_nil)) pe_int (nomark _))))) (pss_one ps_never) pss_nil)
  (pss_cons (ps_if (pt_cmpR og_gt (pe_callB cg_len (by rfl) (g_len b) boot_len (pa_cons (pv 1) pa_nil)) (pe_glob (by rfl) (k_MOST_DAYS b).choose_spec ⟨_, rfl⟩) (nomark _)) (pss_one ps_never) pss_nil)
  (pss_cons (ps_fld (pv 0) (pe_callTy cg_tuple (by rfl) (g_tuple b) boot_tuple (pa_cons (pv 1) pa_nil)) rfl)
  (pss_cons (ps_fld (pv 0) (pe_fn G_heights_of (hr.mono (by decide)) (by rfl) (n_heights_of b) F_heights_of.kp (bindsP F_heights_of fun _ _ _ _ _ _ us hl => match us, hl with | [_], _ => rfl) pass0 (pc_p (pa_cons (pv 1) pa_nil))) rfl)
  (pss_cons (ps_fld (pv 0) (pe_callB cg_len (by rfl) (g_len b) boot_len (pa_cons (pv 1) pa_nil)) rfl)
  (pss_one (ps_fld (pv 0) (pe_ix ix_seq (pe_fld (pv 0) rfl) (pe_un un_neg pe_int) (fun _ _ => rfl)) rfl)))))))
theorem sc_Row_joined : FnScope N_Row_joined ["self", "other"] (defScope st_Row_joined) := ⟨rfl, rfl, rfl, by decide +kernel, rfl, by decide +kernel, by decide +kernel⟩
theorem ok_Row_joined (b : Bd K mg) (h_Row_init : GoodF P w K mg base 3 d_Row_init ["self", "gains"] (sp_Row_init K w)) (h_need_row : GoodF P w K mg base 1 d_need_row ["value", "part"] (sp_need_row K w)) : GoodF P w K mg base 5 d_Row_joined ["self", "other"] (sp_Row_joined K w) := by
  obtain ⟨_, G_Row_init, F_Row_init⟩ := h_Row_init
  obtain ⟨_, G_need_row, F_need_row⟩ := h_need_row
  obtain ⟨h, X, G, c⟩ := b.ex
  obtain ⟨fd, F⟩ := c.def_ 14 (d := d_Row_joined) rfl
  have nd : (N_Row_joined).Nodup := sc_Row_joined.nd
  refine ⟨fd, F.ok sc_Row_joined (fun vs H Q E h => h.1) (fun cdv A outer s H vs Q E hr h => ⟨t_Row_joined K w, PSs.nox ?_, h.2⟩), F⟩
  exact (pss_cons (ps_expr (pe_fn G_need_row (hr.mono (by decide)) (by rfl) (n_need_row b) F_need_row.kp (bindsP F_need_row fun _ _ _ _ _ _ us hl => match us, hl with | [_, _], _ => rfl) pass0 (pc_p (pa_cons (pv 1) (pa_cons pe_str pa_nil)))))
  (pss_one (ps_ret (pe_new (mk_Row b) G_Row_init (hr.mono (by decide)) (by rfl) (n_Row b) (bindsP F_Row_init fun _ _ _ _ _ _ us hl => match us, hl with | [_, _], _ => rfl) pass0 (pc_p (pa_cons (pe_lst (StX.pa_star (pe_fld (pv 0) rfl) (StX.pa_star (pe_fld (pv 1) rfl) pa_nil))) pa_nil))))))
theorem sc_Row_len : FnScope N_Row_len ["self"] (defScope st_Row_len) := ⟨rfl, rfl, rfl, by decide +kernel, rfl, by decide +kernel, by decide +kernel⟩
theorem ok_Row_len (b : Bd K mg)  : GoodF P w K mg base 1 d_Row_len ["self"] (sp_Row_len K w) := by
  obtain ⟨h, X, G, c⟩ := b.ex
  obtain ⟨fd, F⟩ := c.def_ 15 (d := d_Row_len) rfl
  have nd : (N_Row_len).Nodup := sc_Row_len.nd
  refine ⟨fd, F.ok sc_Row_len (fun vs H Q E h => h.1) (fun cdv A outer s H vs Q E hr h => ⟨t_Row_len K w, PSs.nox ?_, h.2⟩), F⟩
  exact (pss_one (ps_ret (pe_callB cg_len (by rfl) (g_len b) boot_len (pa_cons (pe_fld (pv 0) rfl) pa_nil))))
theorem sc_law_twice_right : FnScope N_law_twice_right ["_law_gains_here"] (defScope st_law_twice_right) := ⟨rfl, rfl, rfl, by decide +kernel, rfl, by decide +kernel, by decide +kernel⟩
theorem ok_law_twice_right (b : Bd K mg) (h_Row_eq : GoodF P w K mg base 1 d_Row_eq ["self", "other"] (sp_Row_eq K w)) (h_table_words : GoodF P w K mg base 2 d_table_words ["row"] (sp_table_words K w)) (h_sort_of : GoodF P w K mg base 5 d_sort_of ["row", "length"] (sp_sort_of K w)) (h_sums : GoodF P w K mg base 5 d_sums ["row", "length"] (sp_sums K w)) (h_Row_joined : GoodF P w K mg base 5 d_Row_joined ["self", "other"] (sp_Row_joined K w)) (h_Row_len : GoodF P w K mg base 1 d_Row_len ["self"] (sp_Row_len K w)) (h_Row_init : GoodF P w K mg base 3 d_Row_init ["self", "gains"] (sp_Row_init K w)) : GoodF P w K mg base 6 d_law_twice_right ["_law_gains_here"] (sp_law_twice_right K w) := by
  obtain ⟨_, G_Row_eq, F_Row_eq⟩ := h_Row_eq
  obtain ⟨_, G_table_words, F_table_words⟩ := h_table_words
  obtain ⟨_, G_sort_of, F_sort_of⟩ := h_sort_of
  obtain ⟨_, G_sums, F_sums⟩ := h_sums
  obtain ⟨_, G_Row_joined, F_Row_joined⟩ := h_Row_joined
  obtain ⟨_, G_Row_len, F_Row_len⟩ := h_Row_len
  obtain ⟨_, G_Row_init, F_Row_init⟩ := h_Row_init
  obtain ⟨h, X, G, c⟩ := b.ex
  obtain ⟨fd, F⟩ := c.def_ 16 (d := d_law_twice_right) rfl
  have nd : (N_law_twice_right).Nodup := sc_law_twice_right.nd
  refine ⟨fd, F.ok sc_law_twice_right (fun vs H Q E h => h.1) (fun cdv A outer s H vs Q E hr h => ⟨t_law_twice_right K w, PSs.nox ?_, h.2⟩), F⟩
  exact (pss_cons (ps_par3 (i := 1) (j := 2) (l := 3) (by rfl) nd rfl rfl rfl (by decide) (by decide) (by decide) rfl rfl rfl (pa_cons (pe_new (mk_Row b) G_Row_init (hr.mono (by decide)) (by rfl) (n_Row b) (bindsP F_Row_init fun _ _ _ _ _ _ us hl => match us, hl with | [_, _], _ => rfl) pass0 (pc_p (pa_cons (pv 0) pa_nil))) (pa_cons (pe_callB (Rl.CallR.or cg_len (call_lenO (spm_Row_len b) G_Row_len (hr.mono (by decide)) (F_Row_len.bindsN fun _ _ _ _ _ _ us hl => match us, hl with | [_], _ => rfl) pass0)) (by rfl) (g_len b) boot_len (pa_cons (pv 0) pa_nil)) (pa_cons (pe_callB (cg_sum rfl) (by rfl) (g_sum b) (by decide +kernel) (pa_cons (pv 0) pa_nil)) pa_nil))) (by rfl))
  (pss_cons (ps_set (i := 4) nd rfl (Or.inl rfl) (pe_mt (pv 1) (cl_Row b) (me_Row_joined b) G_Row_joined (hr.mono (by decide)) (bindsP F_Row_joined fun _ _ _ _ _ _ us hl => match us, hl with | [_, _], _ => rfl) pass0 (pc_p (pa_cons (pv 1) pa_nil))))
  (pss_cons (ps_if (pt_cmpR (OpR.or (og_ne hr.units) (op_neO (spm_Row_eq b) (nem_Row b) G_Row_eq (hr.mono (by decide)) (F_Row_eq.bindsN fun _ _ _ _ _ _ us hl => match us, hl with | [_, _], _ => rfl) pass0)) (pe_fn G_sums (hr.mono (by decide)) (by rfl) (n_sums b) F_sums.kp (bindsP F_sums fun _ _ _ _ _ _ us hl => match us, hl with | [_, _], _ => rfl) pass0 (pc_p (pa_cons (pv 4) (pa_cons (pv 2) pa_nil)))) (pe_op og_mulT (pe_tup (pa_cons (pv 3) pa_nil)) (pe_op og_add (pv 2) pe_int)) (nomark _)) (pss_one (ps_ret pe_bl)) pss_nil)
  (pss_cons (ps_if (PW.pt (pw_or (pt_cmpR (OpR.or (og_ne hr.units) (op_neO (spm_Row_eq b) (nem_Row b) G_Row_eq (hr.mono (by decide)) (F_Row_eq.bindsN fun _ _ _ _ _ _ us hl => match us, hl with | [_, _], _ => rfl) pass0)) (pe_fn G_sort_of (hr.mono (by decide)) (by rfl) (n_sort_of b) F_sort_of.kp (bindsP F_sort_of fun _ _ _ _ _ _ us hl => match us, hl with | [_, _], _ => rfl) pass0 (pc_p (pa_cons (pv 4) (pa_cons (pv 2) pa_nil)))) (pe_ifExp (pt_cmpR og_gt (pv 3) pe_int (nomark _)) pe_str (pe_ifExp (pt_cmpR (og_lt hr.units0) (pv 3) pe_int (nomark _)) pe_str pe_str)) (nomark _)) (pw_or1 (pt_cmpR (OpR.or (og_ne hr.units) (op_neO (spm_Row_eq b) (nem_Row b) G_Row_eq (hr.mono (by decide)) (F_Row_eq.bindsN fun _ _ _ _ _ _ us hl => match us, hl with | [_, _], _ => rfl) pass0)) (pe_fn G_sort_of (hr.mono (by decide)) (by rfl) (n_sort_of b) F_sort_of.kp (bindsP F_sort_of fun _ _ _ _ _ _ us hl => match us, hl with | [_, _], _ => rfl) pass0 (pc_p (pa_cons (pv 4) (pa_cons (pe_op og_mulT pe_int (pv 2)) pa_nil)))) (pe_fn G_sort_of (hr.mono (by decide)) (by rfl) (n_sort_of b) F_sort_of.kp (bindsP F_sort_of fun _ _ _ _ _ _ us hl => match us, hl with | [_, _], _ => rfl) pass0 (pc_p (pa_cons (pv 4) (pa_cons (pv 2) pa_nil)))) (nomark _))))) (pss_one (ps_ret pe_bl)) pss_nil)
  (pss_one (ps_ret (pe_orT (pe_cmpR (OpR.or (og_ne hr.units) (op_neO (spm_Row_eq b) (nem_Row b) G_Row_eq (hr.mono (by decide)) (F_Row_eq.bindsN fun _ _ _ _ _ _ us hl => match us, hl with | [_, _], _ => rfl) pass0)) (pv 3) pe_int (nomark _)) (pe_one (pe_cmpR (OpR.or (og_eq hr.units) (op_eqO (spm_Row_eq b) G_Row_eq (hr.mono (by decide)) (F_Row_eq.bindsN fun _ _ _ _ _ _ us hl => match us, hl with | [_, _], _ => rfl) pass0)) (pe_lc (own := [("_law_word_here", 5)]) (g := (gName 5)) (tt := (tTest (tOp (qIn K) (tVar 5) (tTup (tCons (tC (.str "gains")) (tCons (tC (.str "loses")) tNil)))))) (by rfl) nd (pi_seq (pe_slice sg_all (pe_fn G_table_words (hr.mono (by decide)) (by rfl) (n_table_words b) F_table_words.kp (bindsP F_table_words fun _ _ _ _ _ _ us hl => match us, hl with | [_], _ => rfl) pass0 (pc_p (pa_cons (pv 4) pa_nil))) po_none (po_some (pv 2)))) (blkOk_by (N := ["_law_gains_here", "_law_row", "_law_days", "_law_total", "_law_both", "_law_word_here"]) (sc := defScope st_law_twice_right) (by decide +kernel)) (fun _ _ _ _ _ => (pg_name (i := 5) nd rfl (Or.inl rfl))) (fun _ _ _ _ _ => (pts_one (pt_cmpR (og_in (rm65 hr)) (pv 5) (pe_tup (pa_cons pe_str (pa_cons pe_str pa_nil))) (by rfl)))) (fun _ _ _ _ _ => (pv 5))) (pe_lst pa_nil) (nomark _))))))))))
theorem sc_law_word : FnScope N_law_word ["_law_told"] (defScope st_law_word) := ⟨rfl, rfl, rfl, by decide +kernel, rfl, by decide +kernel, by decide +kernel⟩
theorem ok_law_word (b : Bd K mg) (h_Row_eq : GoodF P w K mg base 1 d_Row_eq ["self", "other"] (sp_Row_eq K w)) (h_Row_len : GoodF P w K mg base 1 d_Row_len ["self"] (sp_Row_len K w)) : GoodF P w K mg base 3 d_law_word ["_law_told"] (sp_law_word K w) := by
  obtain ⟨_, G_Row_eq, F_Row_eq⟩ := h_Row_eq
  obtain ⟨_, G_Row_len, F_Row_len⟩ := h_Row_len
  obtain ⟨h, X, G, c⟩ := b.ex
  obtain ⟨fd, F⟩ := c.def_ 17 (d := d_law_word) rfl
  have nd : (N_law_word).Nodup := sc_law_word.nd
  refine ⟨fd, F.ok sc_law_word (fun vs H Q E h => h.1) (fun cdv A outer s H vs Q E hr h => ⟨t_law_word K w, PSs.nox ?_, h.2⟩), F⟩
  exact (pss_cons (ps_par (i := 1) (j := 2) (by rfl) nd rfl rfl (by decide) rfl rfl (pa_cons (pe_callB (Rl.CallR.or cg_len (call_lenO (spm_Row_len b) G_Row_len (hr.mono (by decide)) (F_Row_len.bindsN fun _ _ _ _ _ _ us hl => match us, hl with | [_], _ => rfl) pass0)) (by rfl) (g_len b) boot_len (pa_cons (pe_lc (own := [("_law_one", 3)]) (g := (gName 3)) (tt := (tTest (tOp qGt (tVar 3) (tC (.int 0))))) (by rfl) nd (pi_seq (pv 0)) (blkOk_by (N := ["_law_told", "_law_above", "_law_below", "_law_one"]) (sc := defScope st_law_word) (by decide +kernel)) (fun _ _ _ _ _ => (pg_name (i := 3) nd rfl (Or.inl rfl))) (fun _ _ _ _ _ => (pts_one (pt_cmpR og_gt (pv 3) pe_int (nomark _)))) (fun _ _ _ _ _ => (pv 3))) pa_nil)) (pa_cons (pe_callB (Rl.CallR.or cg_len (call_lenO (spm_Row_len b) G_Row_len (hr.mono (by decide)) (F_Row_len.bindsN fun _ _ _ _ _ _ us hl => match us, hl with | [_], _ => rfl) pass0)) (by rfl) (g_len b) boot_len (pa_cons (pe_lc (own := [("_law_one", 3)]) (g := (gName 3)) (tt := (tTest (tOp (qLt K) (tVar 3) (tC (.int 0))))) (by rfl) nd (pi_seq (pv 0)) (blkOk_by (N := ["_law_told", "_law_above", "_law_below", "_law_one"]) (sc := defScope st_law_word) (by decide +kernel)) (fun _ _ _ _ _ => (pg_name (i := 3) nd rfl (Or.inl rfl))) (fun _ _ _ _ _ => (pts_one (pt_cmpR (og_lt hr.units0) (pv 3) pe_int (nomark _)))) (fun _ _ _ _ _ => (pv 3))) pa_nil)) pa_nil)) (by rfl))
  (pss_cons (ps_if (pt_cmpR (OpR.or (og_eq hr.units) (op_eqO (spm_Row_eq b) G_Row_eq (hr.mono (by decide)) (F_Row_eq.bindsN fun _ _ _ _ _ _ us hl => match us, hl with | [_, _], _ => rfl) pass0)) (pv 1) (pe_callB (Rl.CallR.or cg_len (call_lenO (spm_Row_len b) G_Row_len (hr.mono (by decide)) (F_Row_len.bindsN fun _ _ _ _ _ _ us hl => match us, hl with | [_], _ => rfl) pass0)) (by rfl) (g_len b) boot_len (pa_cons (pv 0) pa_nil)) (nomark _)) (pss_one (ps_ret pe_str)) pss_nil)
  (pss_cons (ps_if (pt_cmpR (OpR.or (og_eq hr.units) (op_eqO (spm_Row_eq b) G_Row_eq (hr.mono (by decide)) (F_Row_eq.bindsN fun _ _ _ _ _ _ us hl => match us, hl with | [_, _], _ => rfl) pass0)) (pv 2) (pe_callB (Rl.CallR.or cg_len (call_lenO (spm_Row_len b) G_Row_len (hr.mono (by decide)) (F_Row_len.bindsN fun _ _ _ _ _ _ us hl => match us, hl with | [_], _ => rfl) pass0)) (by rfl) (g_len b) boot_len (pa_cons (pv 0) pa_nil)) (nomark _)) (pss_one (ps_ret pe_str)) pss_nil)
  (pss_one (ps_ret (pe_ifExp (pt_cmpR (OpR.or (og_eq hr.units) (op_eqO (spm_Row_eq b) G_Row_eq (hr.mono (by decide)) (F_Row_eq.bindsN fun _ _ _ _ _ _ us hl => match us, hl with | [_, _], _ => rfl) pass0)) (pe_op og_add (pv 1) (pv 2)) pe_int (nomark _)) pe_str pe_str))))))
theorem sc_law_sums : FnScope N_law_sums ["_law_gains_here", "_law_length"] (defScope st_law_sums) := ⟨rfl, rfl, rfl, by decide +kernel, rfl, by decide +kernel, by decide +kernel⟩
theorem ok_law_sums (b : Bd K mg) (h_Row_len : GoodF P w K mg base 1 d_Row_len ["self"] (sp_Row_len K w)) : GoodF P w K mg base 3 d_law_sums ["_law_gains_here", "_law_length"] (sp_law_sums K w) := by
  obtain ⟨_, G_Row_len, F_Row_len⟩ := h_Row_len
  obtain ⟨h, X, G, c⟩ := b.ex
  obtain ⟨fd, F⟩ := c.def_ 18 (d := d_law_sums) rfl
  have nd : (N_law_sums).Nodup := sc_law_sums.nd
  refine ⟨fd, F.ok sc_law_sums (fun vs H Q E h => h.1) (fun cdv A outer s H vs Q E hr h => ⟨t_law_sums K w, PSs.nox ?_, h.2⟩), F⟩
  exact (pss_one (ps_ret (pe_lc (own := [("_law_begin", 2)]) (g := (gName 2)) (tt := tYes) (by rfl) nd (pi_range1 (by rfl) (g_range b) (pa_cons (pe_op og_add (pe_op og_sub (pe_callB (Rl.CallR.or cg_len (call_lenO (spm_Row_len b) G_Row_len (hr.mono (by decide)) (F_Row_len.bindsN fun _ _ _ _ _ _ us hl => match us, hl with | [_], _ => rfl) pass0)) (by rfl) (g_len b) boot_len (pa_cons (pv 0) pa_nil)) (pv 1)) pe_int) pa_nil)) (blkOk_by (N := ["_law_gains_here", "_law_length", "_law_begin"]) (sc := defScope st_law_sums) (by decide +kernel)) (fun _ _ _ _ _ => (pg_name (i := 2) nd rfl (Or.inl rfl))) (fun _ _ _ _ _ => pts_nil) (fun _ _ _ _ _ => (pe_callB (cg_sum rfl) (by rfl) (g_sum b) (by decide +kernel) (pa_cons (pe_slice sg_all (pv 0) (po_some (pv 2)) (po_some (pe_op og_add (pv 2) (pv 1)))) pa_nil))))))
theorem sc_law_words : FnScope N_law_words ["_law_gains_here"] (defScope st_law_words) := ⟨rfl, rfl, rfl, by decide +kernel, rfl, by decide +kernel, by decide +kernel⟩
theorem ok_law_words (b : Bd K mg) (h_Row_len : GoodF P w K mg base 1 d_Row_len ["self"] (sp_Row_len K w)) (h_law_word : GoodF P w K mg base 3 d_law_word ["_law_told"] (sp_law_word K w)) (h_law_sums : GoodF P w K mg base 3 d_law_sums ["_law_gains_here", "_law_length"] (sp_law_sums K w)) : GoodF P w K mg base 4 d_law_words ["_law_gains_here"] (sp_law_words K w) := by
  obtain ⟨_, G_Row_len, F_Row_len⟩ := h_Row_len
  obtain ⟨_, G_law_word, F_law_word⟩ := h_law_word
  obtain ⟨_, G_law_sums, F_law_sums⟩ := h_law_sums
  obtain ⟨h, X, G, c⟩ := b.ex
  obtain ⟨fd, F⟩ := c.def_ 19 (d := d_law_words) rfl
  have nd : (N_law_words).Nodup := sc_law_words.nd
  refine ⟨fd, F.ok sc_law_words (fun vs H Q E h => h.1) (fun cdv A outer s H vs Q E hr h => ⟨t_law_words K w, PSs.nox ?_, h.2⟩), F⟩
  exact (pss_one (ps_ret (pe_lc (own := [("_law_length", 1)]) (g := (gName 1)) (tt := tYes) (by rfl) nd (pi_range2 (by rfl) (g_range b) (pa_cons pe_int (pa_cons (pe_op og_add (pe_callB (Rl.CallR.or cg_len (call_lenO (spm_Row_len b) G_Row_len (hr.mono (by decide)) (F_Row_len.bindsN fun _ _ _ _ _ _ us hl => match us, hl with | [_], _ => rfl) pass0)) (by rfl) (g_len b) boot_len (pa_cons (pv 0) pa_nil)) pe_int) pa_nil))) (blkOk_by (N := ["_law_gains_here", "_law_length"]) (sc := defScope st_law_words) (by decide +kernel)) (fun _ _ _ _ _ => (pg_name (i := 1) nd rfl (Or.inl rfl))) (fun _ _ _ _ _ => pts_nil) (fun _ _ _ _ _ => (pe_fn G_law_word (hr.mono (by decide)) (by rfl) (n_law_word b) F_law_word.kp (bindsP F_law_word fun _ _ _ _ _ _ us hl => match us, hl with | [_], _ => rfl) pass0 (pc_p (pa_cons (pe_fn G_law_sums (hr.mono (by decide)) (by rfl) (n_law_sums b) F_law_sums.kp (bindsP F_law_sums fun _ _ _ _ _ _ us hl => match us, hl with | [_, _], _ => rfl) pass0 (pc_p (pa_cons (pv 0) (pa_cons (pv 1) pa_nil)))) pa_nil)))))))
theorem sc_law_joined_right : FnScope N_law_joined_right ["_law_gains_here", "_law_others"] (defScope st_law_joined_right) := ⟨rfl, rfl, rfl, by decide +kernel, rfl, by decide +kernel, by decide +kernel⟩
theorem ok_law_joined_right (b : Bd K mg) (h_table_words : GoodF P w K mg base 2 d_table_words ["row"] (sp_table_words K w)) (h_Row_init : GoodF P w K mg base 3 d_Row_init ["self", "gains"] (sp_Row_init K w)) (h_Row_eq : GoodF P w K mg base 1 d_Row_eq ["self", "other"] (sp_Row_eq K w)) (h_law_words : GoodF P w K mg base 4 d_law_words ["_law_gains_here"] (sp_law_words K w)) (h_Row_joined : GoodF P w K mg base 5 d_Row_joined ["self", "other"] (sp_Row_joined K w)) : GoodF P w K mg base 6 d_law_joined_right ["_law_gains_here", "_law_others"] (sp_law_joined_right K w) := by
  obtain ⟨_, G_table_words, F_table_words⟩ := h_table_words
  obtain ⟨_, G_Row_init, F_Row_init⟩ := h_Row_init
  obtain ⟨_, G_Row_eq, F_Row_eq⟩ := h_Row_eq
  obtain ⟨_, G_law_words, F_law_words⟩ := h_law_words
  obtain ⟨_, G_Row_joined, F_Row_joined⟩ := h_Row_joined
  obtain ⟨h, X, G, c⟩ := b.ex
  obtain ⟨fd, F⟩ := c.def_ 20 (d := d_law_joined_right) rfl
  have nd : (N_law_joined_right).Nodup := sc_law_joined_right.nd
  refine ⟨fd, F.ok sc_law_joined_right (fun vs H Q E h => h.1) (fun cdv A outer s H vs Q E hr h => ⟨t_law_joined_right K w, PSs.nox ?_, h.2⟩), F⟩
  exact (pss_cons (ps_par (i := 2) (j := 3) (by rfl) nd rfl rfl (by decide) rfl rfl (pa_cons (pe_op og_add (pv 0) (pv 1)) (pa_cons (pe_mt (pe_new (mk_Row b) G_Row_init (hr.mono (by decide)) (by rfl) (n_Row b) (bindsP F_Row_init fun _ _ _ _ _ _ us hl => match us, hl with | [_, _], _ => rfl) pass0 (pc_p (pa_cons (pv 0) pa_nil))) (cl_Row b) (me_Row_joined b) G_Row_joined (hr.mono (by decide)) (bindsP F_Row_joined fun _ _ _ _ _ _ us hl => match us, hl with | [_, _], _ => rfl) pass0 (pc_p (pa_cons (pe_new (mk_Row b) G_Row_init (hr.mono (by decide)) (by rfl) (n_Row b) (bindsP F_Row_init fun _ _ _ _ _ _ us hl => match us, hl with | [_, _], _ => rfl) pass0 (pc_p (pa_cons (pv 1) pa_nil))) pa_nil))) pa_nil)) (by rfl))
  (pss_cons (ps_set (i := 4) nd rfl (Or.inr rfl) (pe_fn G_table_words (hr.mono (by decide)) (by rfl) (n_table_words b) F_table_words.kp (bindsP F_table_words fun _ _ _ _ _ _ us hl => match us, hl with | [_], _ => rfl) pass0 (pc_p (pa_cons (pv 3) pa_nil))))
  (pss_cons (ps_if (pt_cmpR (OpR.or (og_ne hr.units) (op_neO (spm_Row_eq b) (nem_Row b) G_Row_eq (hr.mono (by decide)) (F_Row_eq.bindsN fun _ _ _ _ _ _ us hl => match us, hl with | [_, _], _ => rfl) pass0)) (pe_callTy cg_list (by rfl) (g_list b) boot_list (pa_cons (pv 4) pa_nil)) (pe_fn G_law_words (hr.mono (by decide)) (by rfl) (n_law_words b) F_law_words.kp (bindsP F_law_words fun _ _ _ _ _ _ us hl => match us, hl with | [_], _ => rfl) pass0 (pc_p (pa_cons (pv 2) pa_nil))) (nomark _)) (pss_one (ps_ret pe_bl)) pss_nil)
  (pss_cons (ps_for PassesOwn.never rfl (pi_seq (pe_tup (pa_cons (pe_fn G_table_words (hr.mono (by decide)) (by rfl) (n_table_words b) F_table_words.kp (bindsP F_table_words fun _ _ _ _ _ _ us hl => match us, hl with | [_], _ => rfl) pass0 (pc_p (pa_cons (pe_new (mk_Row b) G_Row_init (hr.mono (by decide)) (by rfl) (n_Row b) (bindsP F_Row_init fun _ _ _ _ _ _ us hl => match us, hl with | [_, _], _ => rfl) pass0 (pc_p (pa_cons (pv 0) pa_nil))) pa_nil))) (pa_cons (pe_fn G_table_words (hr.mono (by decide)) (by rfl) (n_table_words b) F_table_words.kp (bindsP F_table_words fun _ _ _ _ _ _ us hl => match us, hl with | [_], _ => rfl) pass0 (pc_p (pa_cons (pe_new (mk_Row b) G_Row_init (hr.mono (by decide)) (by rfl) (n_Row b) (bindsP F_Row_init fun _ _ _ _ _ _ us hl => match us, hl with | [_, _], _ => rfl) pass0 (pc_p (pa_cons (pv 1) pa_nil))) pa_nil))) pa_nil)))) (pg_name (i := 5) nd rfl (Or.inl rfl)) (pss_one (ps_if (pt_cmpR (OpR.or (og_ne hr.units) (op_neO (spm_Row_eq b) (nem_Row b) G_Row_eq (hr.mono (by decide)) (F_Row_eq.bindsN fun _ _ _ _ _ _ us hl => match us, hl with | [_, _], _ => rfl) pass0)) (pe_lc (own := [("_law_at", 6), ("_law_word_here", 7)]) (g := (gTup K 2 (gCons (gName 6) (gCons (gName 7) gNil)))) (tt := (tAnd (tTest (tOp (orR2 (qNe K) (rNeO K (He.ga K "Row") (sp_Row_eq K w) E0)) (tOp (rIx K) (tVar 4) (tVar 6)) (tC (.str "mixed")))) (tTest (tOp (orR2 (qNe K) (rNeO K (He.ga K "Row") (sp_Row_eq K w) E0)) (tVar 7) (tOp (rIx K) (tVar 4) (tVar 6)))))) (by rfl) nd (pi_enumT (by rfl) (g_enumerate b) (pa_cons (pv 5) pa_nil)) (blkOk_by (N := ["_law_gains_here", "_law_others", "_law_whole", "_law_both", "_law_told", "_law_words_here", "_law_at", "_law_word_here"]) (sc := defScope st_law_joined_right) (by decide +kernel)) (fun _ _ _ _ _ => (pg_tup rfl (pgs_cons (pg_name (i := 6) nd rfl (Or.inl rfl)) (pgs_cons (pg_name (i := 7) nd rfl (Or.inl rfl)) pgs_nil)))) (fun _ _ _ _ _ => (pts_one (PW.pt (pw_and (pt_cmpR (OpR.or (og_ne hr.units) (op_neO (spm_Row_eq b) (nem_Row b) G_Row_eq (hr.mono (by decide)) (F_Row_eq.bindsN fun _ _ _ _ _ _ us hl => match us, hl with | [_, _], _ => rfl) pass0)) (pe_ix ix_seq (pv 4) (pv 6) (fun _ _ => rfl)) pe_str (nomark _)) (pw_and1 (pt_cmpR (OpR.or (og_ne hr.units) (op_neO (spm_Row_eq b) (nem_Row b) G_Row_eq (hr.mono (by decide)) (F_Row_eq.bindsN fun _ _ _ _ _ _ us hl => match us, hl with | [_, _], _ => rfl) pass0)) (pv 7) (pe_ix ix_seq (pv 4) (pv 6) (fun _ _ => rfl)) (nomark _))))))) (fun _ _ _ _ _ => (pv 6))) (pe_lst pa_nil) (nomark _)) (pss_one (ps_ret pe_bl)) pss_nil)))
  (pss_one (ps_ret pe_bl))))))
theorem sc_Row_added : FnScope N_Row_added ["self", "other"] (defScope st_Row_added) := ⟨rfl, rfl, rfl, by decide +kernel, rfl, by decide +kernel, by decide +kernel⟩
theorem ok_Row_added (b : Bd K mg) (h_Row_init : GoodF P w K mg base 3 d_Row_init ["self", "gains"] (sp_Row_init K w)) (h_need_row : GoodF P w K mg base 1 d_need_row ["value", "part"] (sp_need_row K w)) : GoodF P w K mg base 5 d_Row_added ["self", "other"] (sp_Row_added K w) := by
  obtain ⟨_, G_Row_init, F_Row_init⟩ := h_Row_init
  obtain ⟨_, G_need_row, F_need_row⟩ := h_need_row
  obtain ⟨h, X, G, c⟩ := b.ex
  obtain ⟨fd, F⟩ := c.def_ 21 (d := d_Row_added) rfl
  have nd : (N_Row_added).Nodup := sc_Row_added.nd
  refine ⟨fd, F.ok sc_Row_added (fun vs H Q E h => h.1) (fun cdv A outer s H vs Q E hr h => ⟨t_Row_added K w, PSs.nox ?_, h.2⟩), F⟩
  exact (pss_cons (ps_expr (pe_fn G_need_row (hr.mono (by decide)) (by rfl) (n_need_row b) F_need_row.kp (bindsP F_need_row fun _ _ _ _ _ _ us hl => match us, hl with | [_, _], _ => rfl) pass0 (pc_p (pa_cons (pv 1) (pa_cons pe_str pa_nil)))))
  (pss_cons (ps_if (pt_cmpR (og_ne hr.units) (pe_fld (pv 1) rfl) (pe_fld (pv 0) rfl) (nomark _)) (pss_one ps_never) pss_nil)
  (pss_one (ps_ret (pe_new (mk_Row b) G_Row_init (hr.mono (by decide)) (by rfl) (n_Row b) (bindsP F_Row_init fun _ _ _ _ _ _ us hl => match us, hl with | [_, _], _ => rfl) pass0 (pc_p (pa_cons (pe_lc (own := [("mine", 2), ("its", 3)]) (g := (gTup K 2 (gCons (gName 2) (gCons (gName 3) gNil)))) (tt := tYes) (by rfl) nd (pi_zipA (by rfl) (g_zip b) (pa_cons (pe_fld (pv 0) rfl) (pa_cons (pe_fld (pv 1) rfl) pa_nil))) (blkOk_by (N := ["self", "other", "mine", "its"]) (sc := defScope st_Row_added) (by decide +kernel)) (fun _ _ _ _ _ => (pg_tup rfl (pgs_cons (pg_name (i := 2) nd rfl (Or.inl rfl)) (pgs_cons (pg_name (i := 3) nd rfl (Or.inl rfl)) pgs_nil)))) (fun _ _ _ _ _ => pts_nil) (fun _ _ _ _ _ => (pe_op og_add (pv 2) (pv 3)))) pa_nil)))))))
theorem sc_law_added_right : FnScope N_law_added_right ["_law_gains_here", "_law_others"] (defScope st_law_added_right) := ⟨rfl, rfl, rfl, by decide +kernel, rfl, by decide +kernel, by decide +kernel⟩
theorem ok_law_added_right (b : Bd K mg) (h_Row_eq : GoodF P w K mg base 1 d_Row_eq ["self", "other"] (sp_Row_eq K w)) (h_law_words : GoodF P w K mg base 4 d_law_words ["_law_gains_here"] (sp_law_words K w)) (h_table_words : GoodF P w K mg base 2 d_table_words ["row"] (sp_table_words K w)) (h_Row_init : GoodF P w K mg base 3 d_Row_init ["self", "gains"] (sp_Row_init K w)) (h_Row_added : GoodF P w K mg base 5 d_Row_added ["self", "other"] (sp_Row_added K w)) : GoodF P w K mg base 6 d_law_added_right ["_law_gains_here", "_law_others"] (sp_law_added_right K w) := by
  obtain ⟨_, G_Row_eq, F_Row_eq⟩ := h_Row_eq
  obtain ⟨_, G_law_words, F_law_words⟩ := h_law_words
  obtain ⟨_, G_table_words, F_table_words⟩ := h_table_words
  obtain ⟨_, G_Row_init, F_Row_init⟩ := h_Row_init
  obtain ⟨_, G_Row_added, F_Row_added⟩ := h_Row_added
  obtain ⟨h, X, G, c⟩ := b.ex
  obtain ⟨fd, F⟩ := c.def_ 22 (d := d_law_added_right) rfl
  have nd : (N_law_added_right).Nodup := sc_law_added_right.nd
  refine ⟨fd, F.ok sc_law_added_right (fun vs H Q E h => h.1) (fun cdv A outer s H vs Q E hr h => ⟨t_law_added_right K w, PSs.nox ?_, h.2⟩), F⟩
  exact (pss_cons (ps_par3 (i := 2) (j := 3) (l := 4) (by rfl) nd rfl rfl rfl (by decide) (by decide) (by decide) rfl rfl rfl (pa_cons (pe_mt (pe_new (mk_Row b) G_Row_init (hr.mono (by decide)) (by rfl) (n_Row b) (bindsP F_Row_init fun _ _ _ _ _ _ us hl => match us, hl with | [_, _], _ => rfl) pass0 (pc_p (pa_cons (pv 0) pa_nil))) (cl_Row b) (me_Row_added b) G_Row_added (hr.mono (by decide)) (bindsP F_Row_added fun _ _ _ _ _ _ us hl => match us, hl with | [_, _], _ => rfl) pass0 (pc_p (pa_cons (pe_new (mk_Row b) G_Row_init (hr.mono (by decide)) (by rfl) (n_Row b) (bindsP F_Row_init fun _ _ _ _ _ _ us hl => match us, hl with | [_, _], _ => rfl) pass0 (pc_p (pa_cons (pv 1) pa_nil))) pa_nil))) (pa_cons (pe_fn G_law_words (hr.mono (by decide)) (by rfl) (n_law_words b) F_law_words.kp (bindsP F_law_words fun _ _ _ _ _ _ us hl => match us, hl with | [_], _ => rfl) pass0 (pc_p (pa_cons (pv 0) pa_nil))) (pa_cons (pe_fn G_law_words (hr.mono (by decide)) (by rfl) (n_law_words b) F_law_words.kp (bindsP F_law_words fun _ _ _ _ _ _ us hl => match us, hl with | [_], _ => rfl) pass0 (pc_p (pa_cons (pv 1) pa_nil))) pa_nil))) (by rfl))
  (pss_cons (ps_set (i := 5) nd rfl (Or.inl rfl) (pe_fn G_table_words (hr.mono (by decide)) (by rfl) (n_table_words b) F_table_words.kp (bindsP F_table_words fun _ _ _ _ _ _ us hl => match us, hl with | [_], _ => rfl) pass0 (pc_p (pa_cons (pv 2) pa_nil))))
  (pss_cons (ps_if (pt_cmpR (OpR.or (og_ne hr.units) (op_neO (spm_Row_eq b) (nem_Row b) G_Row_eq (hr.mono (by decide)) (F_Row_eq.bindsN fun _ _ _ _ _ _ us hl => match us, hl with | [_, _], _ => rfl) pass0)) (pe_callTy cg_list (by rfl) (g_list b) boot_list (pa_cons (pv 5) pa_nil)) (pe_fn G_law_words (hr.mono (by decide)) (by rfl) (n_law_words b) F_law_words.kp (bindsP F_law_words fun _ _ _ _ _ _ us hl => match us, hl with | [_], _ => rfl) pass0 (pc_p (pa_cons (pe_lc (own := [("_law_one", 9), ("_law_other", 10)]) (g := (gTup K 2 (gCons (gName 9) (gCons (gName 10) gNil)))) (tt := tYes) (by rfl) nd (pi_zipA (by rfl) (g_zip b) (pa_cons (pv 0) (pa_cons (pv 1) pa_nil))) (blkOk_by (N := ["_law_gains_here", "_law_others", "_law_both", "_law_mine", "_law_its", "_law_told", "_law_at", "_law_word_here", "_law_pair", "_law_one", "_law_other"]) (sc := defScope st_law_added_right) (by decide +kernel)) (fun _ _ _ _ _ => (pg_tup rfl (pgs_cons (pg_name (i := 9) nd rfl (Or.inl rfl)) (pgs_cons (pg_name (i := 10) nd rfl (Or.inl rfl)) pgs_nil)))) (fun _ _ _ _ _ => pts_nil) (fun _ _ _ _ _ => (pe_op og_add (pv 9) (pv 10)))) pa_nil))) (nomark _)) (pss_one (ps_ret pe_bl)) pss_nil)
  (pss_cons (ps_for PassesOwn.never rfl (pi_enumT (by rfl) (g_enumerate b) (pa_cons (pv 5) pa_nil)) (pg_tup rfl (pgs_cons (pg_name (i := 6) nd rfl (Or.inl rfl)) (pgs_cons (pg_name (i := 7) nd rfl (Or.inl rfl)) pgs_nil))) (pss_cons (ps_set (i := 8) nd rfl (Or.inl rfl) (pe_lst (pa_cons (pe_ix ix_seq (pv 3) (pv 6) (fun _ _ => rfl)) (pa_cons (pe_ix ix_seq (pv 4) (pv 6) (fun _ _ => rfl)) pa_nil))))
  (pss_cons (ps_if (PW.pt (pw_and (pt_cmpR (OpR.or (og_eq hr.units) (op_eqO (spm_Row_eq b) G_Row_eq (hr.mono (by decide)) (F_Row_eq.bindsN fun _ _ _ _ _ _ us hl => match us, hl with | [_, _], _ => rfl) pass0)) (pe_ix ix_seq (pv 8) pe_int (fun _ _ => rfl)) (pe_ix ix_seq (pv 8) pe_int (fun _ _ => rfl)) (nomark _)) (pw_and (pt_cmpR (OpR.or (og_ne hr.units) (op_neO (spm_Row_eq b) (nem_Row b) G_Row_eq (hr.mono (by decide)) (F_Row_eq.bindsN fun _ _ _ _ _ _ us hl => match us, hl with | [_, _], _ => rfl) pass0)) (pe_ix ix_seq (pv 8) pe_int (fun _ _ => rfl)) pe_str (nomark _)) (pw_and1 (pt_cmpR (OpR.or (og_ne hr.units) (op_neO (spm_Row_eq b) (nem_Row b) G_Row_eq (hr.mono (by decide)) (F_Row_eq.bindsN fun _ _ _ _ _ _ us hl => match us, hl with | [_, _], _ => rfl) pass0)) (pv 7) (pe_ix ix_seq (pv 8) pe_int (fun _ _ => rfl)) (nomark _)))))) (pss_one (ps_ret pe_bl)) pss_nil)
  (pss_one (ps_if (PW.pt (pw_and (pt_cmpR (og_in (rm65 hr)) pe_str (pv 8) (by rfl)) (pw_and1 (pt_cmpR (OpR.or (og_ne hr.units) (op_neO (spm_Row_eq b) (nem_Row b) G_Row_eq (hr.mono (by decide)) (F_Row_eq.bindsN fun _ _ _ _ _ _ us hl => match us, hl with | [_, _], _ => rfl) pass0)) (pv 7) (pe_ix ix_seq (pv 8) (pe_op og_sub pe_int (pe_bm PySem.F.plainAttrs_list PySem.F.slot_list_index PySem.F.type_list_index mt_indexS (pv 8) (pa_cons pe_str pa_nil))) (fun _ _ => rfl)) (nomark _))))) (pss_one (ps_ret pe_bl)) pss_nil)))))
  (pss_one (ps_ret pe_bl))))))
theorem sc_Row_plus : FnScope N_Row_plus ["self", "number"] (defScope st_Row_plus) := ⟨rfl, rfl, rfl, by decide +kernel, rfl, by decide +kernel, by decide +kernel⟩
theorem ok_Row_plus (b : Bd K mg) (h_Row_init : GoodF P w K mg base 3 d_Row_init ["self", "gains"] (sp_Row_init K w)) (h_need_number : GoodF P w K mg base 3 d_need_number ["value", "part", "least", "most"] (sp_need_number K w)) : GoodF P w K mg base 5 d_Row_plus ["self", "number"] (sp_Row_plus K w) := by
  obtain ⟨_, G_Row_init, F_Row_init⟩ := h_Row_init
  obtain ⟨_, G_need_number, F_need_number⟩ := h_need_number
  obtain ⟨h, X, G, c⟩ := b.ex
  obtain ⟨fd, F⟩ := c.def_ 23 (d := d_Row_plus) rfl
  have nd : (N_Row_plus).Nodup := sc_Row_plus.nd
  refine ⟨fd, F.ok sc_Row_plus (fun vs H Q E h => h.1) (fun cdv A outer s H vs Q E hr h => ⟨t_Row_plus K w, PSs.nox ?_, h.2⟩), F⟩
  exact (pss_cons (ps_expr (pe_fn G_need_number (hr.mono (by decide)) (by rfl) (n_need_number b) F_need_number.kp (bindsP F_need_number fun _ _ _ _ _ _ us hl => match us, hl with | [_, _, _, _], _ => rfl) pass0 (pc_p (pa_cons (pv 1) (pa_cons pe_str (pa_cons pe_non (pa_cons pe_non pa_nil)))))))
  (pss_one (ps_ret (pe_new (mk_Row b) G_Row_init (hr.mono (by decide)) (by rfl) (n_Row b) (bindsP F_Row_init fun _ _ _ _ _ _ us hl => match us, hl with | [_, _], _ => rfl) pass0 (pc_p (pa_cons (pe_lc (own := [("gain", 2)]) (g := (gName 2)) (tt := tYes) (by rfl) nd (pi_seq (pe_fld (pv 0) rfl)) (blkOk_by (N := ["self", "number", "gain"]) (sc := defScope st_Row_plus) (by decide +kernel)) (fun _ _ _ _ _ => (pg_name (i := 2) nd rfl (Or.inl rfl))) (fun _ _ _ _ _ => pts_nil) (fun _ _ _ _ _ => (pe_op og_add (pv 2) (pv 1)))) pa_nil))))))
theorem sc_law_drip : FnScope N_law_drip ["_law_tap_here", "_law_many"] (defScope st_law_drip) := ⟨rfl, rfl, rfl, by decide +kernel, rfl, by decide +kernel, by decide +kernel⟩
theorem ok_law_drip (b : Bd K mg) (h_Row_len : GoodF P w K mg base 1 d_Row_len ["self"] (sp_Row_len K w)) (h_Row_eq : GoodF P w K mg base 1 d_Row_eq ["self", "other"] (sp_Row_eq K w)) : GoodF P w K mg base 3 d_law_drip ["_law_tap_here", "_law_many"] (sp_law_drip K w) := by
  obtain ⟨_, G_Row_len, F_Row_len⟩ := h_Row_len
  obtain ⟨_, G_Row_eq, F_Row_eq⟩ := h_Row_eq
  obtain ⟨h, X, G, c⟩ := b.ex
  obtain ⟨fd, F⟩ := c.def_ 24 (d := d_law_drip) rfl
  have nd : (N_law_drip).Nodup := sc_law_drip.nd
  refine ⟨fd, F.ok sc_law_drip (fun vs H Q E h => h.1) (fun cdv A outer s H vs Q E hr h => ⟨t_law_drip K w, PSs.nox ?_, h.2⟩), F⟩
  exact (pss_cons (ps_if (pt_cmpR og_gt (pe_ix ix_seq (pv 0) pe_int (fun _ _ => rfl)) pe_int (nomark _)) (pss_cons (ps_set (i := 2) nd rfl (Or.inl rfl) (pe_op og_md (pe_callTy cg_int (by rfl) (g_int b) boot_int (pa_cons (pe_ix ix_seq (pv 0) pe_int (fun _ _ => rfl)) pa_nil)) (pv 1)))
  (pss_cons (ps_asg (pe_op og_fd (pe_callTy cg_int (by rfl) (g_int b) boot_int (pa_cons (pe_ix ix_seq (pv 0) pe_int (fun _ _ => rfl)) pa_nil)) (pv 1)) (pg_sub (pv 0) pe_int set_list))
  (pss_one (ps_ret (pv 2))))) pss_nil)
  (pss_cons (ps_set (i := 3) nd rfl (Or.inl rfl) (pe_ix ix_seq (pv 0) pe_int (fun _ _ => rfl)))
  (pss_cons (ps_asg (pe_op og_add (pv 3) pe_int) (pg_sub (pv 0) pe_int set_list))
  (pss_cons (ps_set (i := 4) nd rfl (Or.inl rfl) (pe_op og_add (pe_op og_mulT pe_int (pv 3)) pe_int))
  (pss_cons (ps_if (pt_cmpR (OpR.or (og_ne hr.units) (op_neO (spm_Row_eq b) (nem_Row b) G_Row_eq (hr.mono (by decide)) (F_Row_eq.bindsN fun _ _ _ _ _ _ us hl => match us, hl with | [_, _], _ => rfl) pass0)) (pe_ix ix_seq (pv 0) pe_int (fun _ _ => rfl)) (pe_lst pa_nil) (nomark _)) (pss_one (ps_set (i := 4) nd rfl (Or.inl rfl) (pe_ix ix_seq (pe_ix ix_seq (pv 0) pe_int (fun _ _ => rfl)) (pe_op og_md (pe_callTy cg_int (by rfl) (g_int b) boot_int (pa_cons (pv 3) pa_nil)) (pe_callB (Rl.CallR.or cg_len (call_lenO (spm_Row_len b) G_Row_len (hr.mono (by decide)) (F_Row_len.bindsN fun _ _ _ _ _ _ us hl => match us, hl with | [_], _ => rfl) pass0)) (by rfl) (g_len b) boot_len (pa_cons (pe_ix ix_seq (pv 0) pe_int (fun _ _ => rfl)) pa_nil))) (fun _ _ => rfl)))) pss_nil)
  (pss_cons (ps_if (PW.pt (pw_and (pt_cmpR (og_lt hr.units0) (pv 3) (pe_callB (Rl.CallR.or cg_len (call_lenO (spm_Row_len b) G_Row_len (hr.mono (by decide)) (F_Row_len.bindsN fun _ _ _ _ _ _ us hl => match us, hl with | [_], _ => rfl) pass0)) (by rfl) (g_len b) boot_len (pa_cons (pe_ix ix_seq (pv 0) pe_int (fun _ _ => rfl)) pa_nil)) (nomark _)) (pw_and1 (pt_cmpR og_ge (pe_callB cg_abs (by rfl) (g_abs b) (by decide +kernel) (pa_cons (pv 4) pa_nil)) (pe_op og_pw pe_int pe_int) (nomark _))))) (pss_cons (ps_set (i := 5) nd rfl (Or.inl rfl) (pe_op og_add (pe_op og_mulT pe_int (pe_op og_sub (pe_callB cg_abs (by rfl) (g_abs b) (by decide +kernel) (pa_cons (pv 4) pa_nil)) (pe_op og_pw pe_int pe_int))) (pe_callTy cg_int (by rfl) (g_int b) boot_int (pa_cons (pe_cmpR (og_lt hr.units0) (pv 4) pe_int (nomark _)) pa_nil))))
  (pss_cons (ps_asg (pe_op og_fd (pe_callTy cg_int (by rfl) (g_int b) boot_int (pa_cons (pv 5) pa_nil)) (pv 1)) (pg_sub (pv 0) pe_int set_list))
  (pss_one (ps_ret (pe_op og_md (pe_callTy cg_int (by rfl) (g_int b) boot_int (pa_cons (pv 5) pa_nil)) (pv 1)))))) pss_nil)
  (pss_cons (ps_set (i := 6) nd rfl (Or.inl rfl) (pe_op og_md (pe_callTy cg_int (by rfl) (g_int b) boot_int (pa_cons (pe_op og_pw (pe_op og_add (pe_op og_add (pe_op og_md (pe_callTy cg_int (by rfl) (g_int b) boot_int (pa_cons (pv 4) pa_nil)) pe_int) (pe_op og_mulT pe_int (pv 3))) pe_int) pe_int) pa_nil)) pe_int))
  (pss_cons (ps_set (i := 6) nd rfl (Or.inl rfl) (pe_op og_md (pe_callTy cg_int (by rfl) (g_int b) boot_int (pa_cons (pe_op og_pw (pe_op og_add (pe_op og_add (pe_op og_mulT (pv 6) (pe_op og_add (pe_op og_mulT pe_int (pv 3)) pe_int)) (pe_op og_mulT (pe_op og_mulT pe_int (pv 3)) (pv 3))) pe_int) pe_int) pa_nil)) pe_int))
  (pss_one (ps_ret (pe_op og_md (pe_callTy cg_int (by rfl) (g_int b) boot_int (pa_cons (pe_op og_fd (pv 6) pe_int) pa_nil)) (pv 1))))))))))))
theorem sc_law_any : FnScope N_law_any ["_law_tap_here", "_law_some"] (defScope st_law_any) := ⟨rfl, rfl, rfl, by decide +kernel, rfl, by decide +kernel, by decide +kernel⟩
theorem ok_law_any (b : Bd K mg) (h_law_drip : GoodF P w K mg base 3 d_law_drip ["_law_tap_here", "_law_many"] (sp_law_drip K w)) (h_Row_len : GoodF P w K mg base 1 d_Row_len ["self"] (sp_Row_len K w)) : GoodF P w K mg base 4 d_law_any ["_law_tap_here", "_law_some"] (sp_law_any K w) := by
  obtain ⟨_, G_law_drip, F_law_drip⟩ := h_law_drip
  obtain ⟨_, G_Row_len, F_Row_len⟩ := h_Row_len
  obtain ⟨h, X, G, c⟩ := b.ex
  obtain ⟨fd, F⟩ := c.def_ 25 (d := d_law_any) rfl
  have nd : (N_law_any).Nodup := sc_law_any.nd
  refine ⟨fd, F.ok sc_law_any (fun vs H Q E h => h.1) (fun cdv A outer s H vs Q E hr h => ⟨t_law_any K w, PSs.nox ?_, h.2⟩), F⟩
  exact (pss_one (ps_ret (pe_ix ix_seq (pv 1) (pe_fn G_law_drip (hr.mono (by decide)) (by rfl) (n_law_drip b) F_law_drip.kp (bindsP F_law_drip fun _ _ _ _ _ _ us hl => match us, hl with | [_, _], _ => rfl) pass0 (pc_p (pa_cons (pv 0) (pa_cons (pe_callB (Rl.CallR.or cg_len (call_lenO (spm_Row_len b) G_Row_len (hr.mono (by decide)) (F_Row_len.bindsN fun _ _ _ _ _ _ us hl => match us, hl with | [_], _ => rfl) pass0)) (by rfl) (g_len b) boot_len (pa_cons (pv 1) pa_nil)) pa_nil)))) (fun _ _ => rfl))))
theorem sc_Row_times : FnScope N_Row_times ["self", "number"] (defScope st_Row_times) := ⟨rfl, rfl, rfl, by decide +kernel, rfl, by decide +kernel, by decide +kernel⟩
theorem ok_Row_times (b : Bd K mg) (h_Row_init : GoodF P w K mg base 3 d_Row_init ["self", "gains"] (sp_Row_init K w)) (h_need_number : GoodF P w K mg base 3 d_need_number ["value", "part", "least", "most"] (sp_need_number K w)) : GoodF P w K mg base 5 d_Row_times ["self", "number"] (sp_Row_times K w) := by
  obtain ⟨_, G_Row_init, F_Row_init⟩ := h_Row_init
  obtain ⟨_, G_need_number, F_need_number⟩ := h_need_number
  obtain ⟨h, X, G, c⟩ := b.ex
  obtain ⟨fd, F⟩ := c.def_ 26 (d := d_Row_times) rfl
  have nd : (N_Row_times).Nodup := sc_Row_times.nd
  refine ⟨fd, F.ok sc_Row_times (fun vs H Q E h => h.1) (fun cdv A outer s H vs Q E hr h => ⟨t_Row_times K w, PSs.nox ?_, h.2⟩), F⟩
  exact (pss_cons (ps_expr (pe_fn G_need_number (hr.mono (by decide)) (by rfl) (n_need_number b) F_need_number.kp (bindsP F_need_number fun _ _ _ _ _ _ us hl => match us, hl with | [_, _, _, _], _ => rfl) pass0 (pc_p (pa_cons (pv 1) (pa_cons pe_str (pa_cons pe_non (pa_cons pe_non pa_nil)))))))
  (pss_one (ps_ret (pe_new (mk_Row b) G_Row_init (hr.mono (by decide)) (by rfl) (n_Row b) (bindsP F_Row_init fun _ _ _ _ _ _ us hl => match us, hl with | [_, _], _ => rfl) pass0 (pc_p (pa_cons (pe_lc (own := [("gain", 2)]) (g := (gName 2)) (tt := tYes) (by rfl) nd (pi_seq (pe_fld (pv 0) rfl)) (blkOk_by (N := ["self", "number", "gain"]) (sc := defScope st_Row_times) (by decide +kernel)) (fun _ _ _ _ _ => (pg_name (i := 2) nd rfl (Or.inl rfl))) (fun _ _ _ _ _ => pts_nil) (fun _ _ _ _ _ => (pe_op og_mulT (pv 1) (pv 2)))) pa_nil))))))
theorem sc_Row_backwards : FnScope N_Row_backwards ["self"] (defScope st_Row_backwards) := ⟨rfl, rfl, rfl, by decide +kernel, rfl, by decide +kernel, by decide +kernel⟩
theorem ok_Row_backwards (b : Bd K mg) (h_Row_init : GoodF P w K mg base 3 d_Row_init ["self", "gains"] (sp_Row_init K w)) : GoodF P w K mg base 5 d_Row_backwards ["self"] (sp_Row_backwards K w) := by
  obtain ⟨_, G_Row_init, F_Row_init⟩ := h_Row_init
  obtain ⟨h, X, G, c⟩ := b.ex
  obtain ⟨fd, F⟩ := c.def_ 27 (d := d_Row_backwards) rfl
  have nd : (N_Row_backwards).Nodup := sc_Row_backwards.nd
  refine ⟨fd, F.ok sc_Row_backwards (fun vs H Q E h => h.1) (fun cdv A outer s H vs Q E hr h => ⟨t_Row_backwards K w, PSs.nox ?_, h.2⟩), F⟩
  exact (pss_one (ps_ret (pe_new (mk_Row b) G_Row_init (hr.mono (by decide)) (by rfl) (n_Row b) (bindsP F_Row_init fun _ _ _ _ _ _ us hl => match us, hl with | [_, _], _ => rfl) pass0 (pc_p (pa_cons (pe_revA (pe_fld (pv 0) rfl)) pa_nil)))))
theorem sc_law_alone_right : FnScope N_law_alone_right ["_law_tap_here", "_law_gains_here"] (defScope st_law_alone_right) := ⟨rfl, rfl, rfl, by decide +kernel, rfl, by decide +kernel, by decide +kernel⟩
theorem ok_law_alone_right (b : Bd K mg) (h_Row_eq : GoodF P w K mg base 1 d_Row_eq ["self", "other"] (sp_Row_eq K w)) (h_table_words : GoodF P w K mg base 2 d_table_words ["row"] (sp_table_words K w)) (h_Row_plus : GoodF P w K mg base 5 d_Row_plus ["self", "number"] (sp_Row_plus K w)) (h_sums : GoodF P w K mg base 5 d_sums ["row", "length"] (sp_sums K w)) (h_law_sums : GoodF P w K mg base 3 d_law_sums ["_law_gains_here", "_law_length"] (sp_law_sums K w)) (h_law_any : GoodF P w K mg base 4 d_law_any ["_law_tap_here", "_law_some"] (sp_law_any K w)) (h_Row_times : GoodF P w K mg base 5 d_Row_times ["self", "number"] (sp_Row_times K w)) (h_Row_backwards : GoodF P w K mg base 5 d_Row_backwards ["self"] (sp_Row_backwards K w)) (h_law_drip : GoodF P w K mg base 3 d_law_drip ["_law_tap_here", "_law_many"] (sp_law_drip K w)) (h_Row_len : GoodF P w K mg base 1 d_Row_len ["self"] (sp_Row_len K w)) (h_law_words : GoodF P w K mg base 4 d_law_words ["_law_gains_here"] (sp_law_words K w)) (h_Row_init : GoodF P w K mg base 3 d_Row_init ["self", "gains"] (sp_Row_init K w)) : GoodF P w K mg base 6 d_law_alone_right ["_law_tap_here", "_law_gains_here"] (sp_law_alone_right K w) := by
  obtain ⟨_, G_Row_eq, F_Row_eq⟩ := h_Row_eq
  obtain ⟨_, G_table_words, F_table_words⟩ := h_table_words
  obtain ⟨_, G_Row_plus, F_Row_plus⟩ := h_Row_plus
  obtain ⟨_, G_sums, F_sums⟩ := h_sums
  obtain ⟨_, G_law_sums, F_law_sums⟩ := h_law_sums
  obtain ⟨_, G_law_any, F_law_any⟩ := h_law_any
  obtain ⟨_, G_Row_times, F_Row_times⟩ := h_Row_times
  obtain ⟨_, G_Row_backwards, F_Row_backwards⟩ := h_Row_backwards
  obtain ⟨_, G_law_drip, F_law_drip⟩ := h_law_drip
  obtain ⟨_, G_Row_len, F_Row_len⟩ := h_Row_len
  obtain ⟨_, G_law_words, F_law_words⟩ := h_law_words
  obtain ⟨_, G_Row_init, F_Row_init⟩ := h_Row_init
  obtain ⟨h, X, G, c⟩ := b.ex
  obtain ⟨fd, F⟩ := c.def_ 28 (d := d_law_alone_right) rfl
  have nd : (N_law_alone_right).Nodup := sc_law_alone_right.nd
  refine ⟨fd, F.ok sc_law_alone_right (fun vs H Q E h => h.1) (fun cdv A outer s H vs Q E hr h => ⟨t_law_alone_right K w, PSs.nox ?_, h.2⟩), F⟩
  exact (pss_cons (ps_par3 (i := 2) (j := 3) (l := 4) (by rfl) nd rfl rfl rfl (by decide) (by decide) (by decide) rfl rfl rfl (pa_cons (pe_new (mk_Row b) G_Row_init (hr.mono (by decide)) (by rfl) (n_Row b) (bindsP F_Row_init fun _ _ _ _ _ _ us hl => match us, hl with | [_, _], _ => rfl) pass0 (pc_p (pa_cons (pv 1) pa_nil))) (pa_cons (pe_fn G_law_words (hr.mono (by decide)) (by rfl) (n_law_words b) F_law_words.kp (bindsP F_law_words fun _ _ _ _ _ _ us hl => match us, hl with | [_], _ => rfl) pass0 (pc_p (pa_cons (pv 1) pa_nil))) (pa_cons (pe_callB (Rl.CallR.or cg_len (call_lenO (spm_Row_len b) G_Row_len (hr.mono (by decide)) (F_Row_len.bindsN fun _ _ _ _ _ _ us hl => match us, hl with | [_], _ => rfl) pass0)) (by rfl) (g_len b) boot_len (pa_cons (pv 1) pa_nil)) pa_nil))) (by rfl))
  (pss_cons (ps_setLc (i := 5) (own := [("_law_word_here", 10)]) (g := (gName 10)) (tt := tYes) (by rfl) nd rfl rfl (sw_true rfl rfl rfl (by decide +kernel)) (pi_seq (pv 3)) (blkOk_by (N := ["_law_tap_here", "_law_gains_here", "_law_row", "_law_due", "_law_days", "_law_turned", "_law_number", "_law_length", "_law_more", "_law_great", "_law_word_here", "_law_one", "_law_gain"]) (sc := defScope st_law_alone_right) (by decide +kernel)) (fun _ _ _ _ _ => (pg_name (i := 10) nd rfl (Or.inl rfl))) (fun _ _ _ _ _ => pts_nil) (fun _ _ _ _ _ => (pe_dget2 (Nat.lt_of_le_of_lt (Nat.add_le_add_left (by decide) _) hr.units) (pe_disp (trs := trsS [("gains", "loses"), ("loses", "gains")]) (pps_cons pe_str pe_str (pps_cons pe_str pe_str pps_nil)) rfl rfl (by simp) (by decide)) (pv 10) (pv 10) ⟨by rfl, by rfl, by rfl, by rfl⟩)))
  (pss_cons (ps_asg (pe_tup (pa_cons (pe_op og_add pe_int (pe_fn G_law_any (hr.mono (by decide)) (by rfl) (n_law_any b) F_law_any.kp (bindsP F_law_any fun _ _ _ _ _ _ us hl => match us, hl with | [_, _], _ => rfl) pass0 (pc_p (pa_cons (pv 0) (pa_cons (pe_lst (pa_cons pe_int (pa_cons pe_int (pa_cons pe_int (pa_cons (pe_op og_pw pe_int pe_int) pa_nil))))) pa_nil))))) (pa_cons (pe_op og_add pe_int (pe_fn G_law_drip (hr.mono (by decide)) (by rfl) (n_law_drip b) F_law_drip.kp (bindsP F_law_drip fun _ _ _ _ _ _ us hl => match us, hl with | [_, _], _ => rfl) pass0 (pc_p (pa_cons (pv 0) (pa_cons (pv 4) pa_nil))))) pa_nil))) (pg_tup rfl (pgs_cons (pg_name (i := 6) nd rfl (Or.inl rfl)) (pgs_cons (pg_name (i := 7) nd rfl (Or.inr rfl)) pgs_nil))))
  (pss_cons (ps_if (PW.pt (pw_or (pt_cmpR (OpR.or (og_ne hr.units) (op_neO (spm_Row_eq b) (nem_Row b) G_Row_eq (hr.mono (by decide)) (F_Row_eq.bindsN fun _ _ _ _ _ _ us hl => match us, hl with | [_, _], _ => rfl) pass0)) (pe_callTy cg_list (by rfl) (g_list b) boot_list (pa_cons (pe_fn G_table_words (hr.mono (by decide)) (by rfl) (n_table_words b) F_table_words.kp (bindsP F_table_words fun _ _ _ _ _ _ us hl => match us, hl with | [_], _ => rfl) pass0 (pc_p (pa_cons (pe_mt (pv 2) (cl_Row b) (me_Row_backwards b) G_Row_backwards (hr.mono (by decide)) (bindsP F_Row_backwards fun _ _ _ _ _ _ us hl => match us, hl with | [_], _ => rfl) pass0 pc_0) pa_nil))) pa_nil)) (pv 3) (nomark _)) (pw_or1 (pt_cmpR (OpR.or (og_ne hr.units) (op_neO (spm_Row_eq b) (nem_Row b) G_Row_eq (hr.mono (by decide)) (F_Row_eq.bindsN fun _ _ _ _ _ _ us hl => match us, hl with | [_, _], _ => rfl) pass0)) (pe_fn G_sums (hr.mono (by decide)) (by rfl) (n_sums b) F_sums.kp (bindsP F_sums fun _ _ _ _ _ _ us hl => match us, hl with | [_, _], _ => rfl) pass0 (pc_p (pa_cons (pe_mt (pv 2) (cl_Row b) (me_Row_backwards b) G_Row_backwards (hr.mono (by decide)) (bindsP F_Row_backwards fun _ _ _ _ _ _ us hl => match us, hl with | [_], _ => rfl) pass0 pc_0) (pa_cons (pv 7) pa_nil)))) (pe_callTy cg_tuple (by rfl) (g_tuple b) boot_tuple (pa_cons (pe_revA (pe_fn G_law_sums (hr.mono (by decide)) (by rfl) (n_law_sums b) F_law_sums.kp (bindsP F_law_sums fun _ _ _ _ _ _ us hl => match us, hl with | [_, _], _ => rfl) pass0 (pc_p (pa_cons (pv 1) (pa_cons (pv 7) pa_nil))))) pa_nil)) (nomark _))))) (pss_one (ps_ret pe_bl)) pss_nil)
  (pss_cons (ps_if (PW.pt (pw_or (pt_cmpR (OpR.or (og_ne hr.units) (op_neO (spm_Row_eq b) (nem_Row b) G_Row_eq (hr.mono (by decide)) (F_Row_eq.bindsN fun _ _ _ _ _ _ us hl => match us, hl with | [_, _], _ => rfl) pass0)) (pe_callTy cg_list (by rfl) (g_list b) boot_list (pa_cons (pe_fn G_table_words (hr.mono (by decide)) (by rfl) (n_table_words b) F_table_words.kp (bindsP F_table_words fun _ _ _ _ _ _ us hl => match us, hl with | [_], _ => rfl) pass0 (pc_p (pa_cons (pe_mt (pv 2) (cl_Row b) (me_Row_times b) G_Row_times (hr.mono (by decide)) (bindsP F_Row_times fun _ _ _ _ _ _ us hl => match us, hl with | [_, _], _ => rfl) pass0 (pc_p (pa_cons (pv 6) pa_nil))) pa_nil))) pa_nil)) (pv 3) (nomark _)) (pw_or (pt_cmpR (OpR.or (og_ne hr.units) (op_neO (spm_Row_eq b) (nem_Row b) G_Row_eq (hr.mono (by decide)) (F_Row_eq.bindsN fun _ _ _ _ _ _ us hl => match us, hl with | [_, _], _ => rfl) pass0)) (pe_callTy cg_list (by rfl) (g_list b) boot_list (pa_cons (pe_fn G_table_words (hr.mono (by decide)) (by rfl) (n_table_words b) F_table_words.kp (bindsP F_table_words fun _ _ _ _ _ _ us hl => match us, hl with | [_], _ => rfl) pass0 (pc_p (pa_cons (pe_mt (pv 2) (cl_Row b) (me_Row_times b) G_Row_times (hr.mono (by decide)) (bindsP F_Row_times fun _ _ _ _ _ _ us hl => match us, hl with | [_, _], _ => rfl) pass0 (pc_p (pa_cons (pe_un un_neg (pv 6)) pa_nil))) pa_nil))) pa_nil)) (pv 5) (nomark _)) (pw_or1 (pt_cmpR (OpR.or (og_ne hr.units) (op_neO (spm_Row_eq b) (nem_Row b) G_Row_eq (hr.mono (by decide)) (F_Row_eq.bindsN fun _ _ _ _ _ _ us hl => match us, hl with | [_, _], _ => rfl) pass0)) (pe_fn G_table_words (hr.mono (by decide)) (by rfl) (n_table_words b) F_table_words.kp (bindsP F_table_words fun _ _ _ _ _ _ us hl => match us, hl with | [_], _ => rfl) pass0 (pc_p (pa_cons (pe_mt (pv 2) (cl_Row b) (me_Row_times b) G_Row_times (hr.mono (by decide)) (bindsP F_Row_times fun _ _ _ _ _ _ us hl => match us, hl with | [_, _], _ => rfl) pass0 (pc_p (pa_cons pe_int pa_nil))) pa_nil))) (pe_op og_mulT (pe_tup (pa_cons pe_str pa_nil)) (pv 4)) (nomark _)))))) (pss_one (ps_ret pe_bl)) pss_nil)
  (pss_cons (ps_set (i := 8) nd rfl (Or.inr rfl) (pe_fn G_law_any (hr.mono (by decide)) (by rfl) (n_law_any b) F_law_any.kp (bindsP F_law_any fun _ _ _ _ _ _ us hl => match us, hl with | [_, _], _ => rfl) pass0 (pc_p (pa_cons (pv 0) (pa_cons (pe_lst (pa_cons pe_int (pa_cons (pe_un un_neg pe_int) (pa_cons pe_int (pa_cons (pe_un un_neg pe_int) pa_nil))))) pa_nil)))))
  (pss_cons (ps_if (pt_cmpR (OpR.or (og_ne hr.units) (op_neO (spm_Row_eq b) (nem_Row b) G_Row_eq (hr.mono (by decide)) (F_Row_eq.bindsN fun _ _ _ _ _ _ us hl => match us, hl with | [_, _], _ => rfl) pass0)) (pe_fn G_sums (hr.mono (by decide)) (by rfl) (n_sums b) F_sums.kp (bindsP F_sums fun _ _ _ _ _ _ us hl => match us, hl with | [_, _], _ => rfl) pass0 (pc_p (pa_cons (pe_mt (pv 2) (cl_Row b) (me_Row_plus b) G_Row_plus (hr.mono (by decide)) (bindsP F_Row_plus fun _ _ _ _ _ _ us hl => match us, hl with | [_, _], _ => rfl) pass0 (pc_p (pa_cons (pv 8) pa_nil))) (pa_cons (pv 7) pa_nil)))) (pe_callTy cg_tuple (by rfl) (g_tuple b) boot_tuple (pa_cons (pe_lc (own := [("_law_one", 11)]) (g := (gName 11)) (tt := tYes) (by rfl) nd (pi_seq (pe_fn G_law_sums (hr.mono (by decide)) (by rfl) (n_law_sums b) F_law_sums.kp (bindsP F_law_sums fun _ _ _ _ _ _ us hl => match us, hl with | [_, _], _ => rfl) pass0 (pc_p (pa_cons (pv 1) (pa_cons (pv 7) pa_nil))))) (blkOk_by (N := ["_law_tap_here", "_law_gains_here", "_law_row", "_law_due", "_law_days", "_law_turned", "_law_number", "_law_length", "_law_more", "_law_great", "_law_word_here", "_law_one", "_law_gain"]) (sc := defScope st_law_alone_right) (by decide +kernel)) (fun _ _ _ _ _ => (pg_name (i := 11) nd rfl (Or.inl rfl))) (fun _ _ _ _ _ => pts_nil) (fun _ _ _ _ _ => (pe_op og_add (pv 11) (pe_op og_mulT (pv 7) (pv 8))))) pa_nil)) (nomark _)) (pss_one (ps_ret pe_bl)) pss_nil)
  (pss_cons (ps_set (i := 9) nd rfl (Or.inl rfl) (pe_op og_add pe_int (pe_callB (cg_maxT rfl hr.units) (by rfl) (g_max b) (by decide +kernel) (pa_cons (pe_lc (own := [("_law_gain", 12)]) (g := (gName 12)) (tt := tYes) (by rfl) nd (pi_seq (pv 1)) (blkOk_by (N := ["_law_tap_here", "_law_gains_here", "_law_row", "_law_due", "_law_days", "_law_turned", "_law_number", "_law_length", "_law_more", "_law_great", "_law_word_here", "_law_one", "_law_gain"]) (sc := defScope st_law_alone_right) (by decide +kernel)) (fun _ _ _ _ _ => (pg_name (i := 12) nd rfl (Or.inl rfl))) (fun _ _ _ _ _ => pts_nil) (fun _ _ _ _ _ => (pe_callB cg_abs (by rfl) (g_abs b) (by decide +kernel) (pa_cons (pv 12) pa_nil)))) pa_nil))))
  (pss_one (ps_ret (pe_andT (pe_cmpR (OpR.or (og_eq hr.units) (op_eqO (spm_Row_eq b) G_Row_eq (hr.mono (by decide)) (F_Row_eq.bindsN fun _ _ _ _ _ _ us hl => match us, hl with | [_, _], _ => rfl) pass0)) (pe_fn G_table_words (hr.mono (by decide)) (by rfl) (n_table_words b) F_table_words.kp (bindsP F_table_words fun _ _ _ _ _ _ us hl => match us, hl with | [_], _ => rfl) pass0 (pc_p (pa_cons (pe_mt (pv 2) (cl_Row b) (me_Row_plus b) G_Row_plus (hr.mono (by decide)) (bindsP F_Row_plus fun _ _ _ _ _ _ us hl => match us, hl with | [_, _], _ => rfl) pass0 (pc_p (pa_cons (pv 9) pa_nil))) pa_nil))) (pe_op og_mulT (pe_tup (pa_cons pe_str pa_nil)) (pv 4)) (nomark _)) (pe_one (pe_cmpR (OpR.or (og_eq hr.units) (op_eqO (spm_Row_eq b) G_Row_eq (hr.mono (by decide)) (F_Row_eq.bindsN fun _ _ _ _ _ _ us hl => match us, hl with | [_, _], _ => rfl) pass0)) (pe_fn G_table_words (hr.mono (by decide)) (by rfl) (n_table_words b) F_table_words.kp (bindsP F_table_words fun _ _ _ _ _ _ us hl => match us, hl with | [_], _ => rfl) pass0 (pc_p (pa_cons (pe_mt (pv 2) (cl_Row b) (me_Row_plus b) G_Row_plus (hr.mono (by decide)) (bindsP F_Row_plus fun _ _ _ _ _ _ us hl => match us, hl with | [_, _], _ => rfl) pass0 (pc_p (pa_cons (pe_un un_neg (pv 9)) pa_nil))) pa_nil))) (pe_op og_mulT (pe_tup (pa_cons pe_str pa_nil)) (pv 4)) (nomark _))))))))))))))
theorem sc_law_gains : FnScope N_law_gains ["_law_tap_here", "_law_days"] (defScope st_law_gains) := ⟨rfl, rfl, rfl, by decide +kernel, rfl, by decide +kernel, by decide +kernel⟩
theorem ok_law_gains (b : Bd K mg) (h_Row_eq : GoodF P w K mg base 1 d_Row_eq ["self", "other"] (sp_Row_eq K w)) (h_law_any : GoodF P w K mg base 4 d_law_any ["_law_tap_here", "_law_some"] (sp_law_any K w)) (h_law_drip : GoodF P w K mg base 3 d_law_drip ["_law_tap_here", "_law_many"] (sp_law_drip K w)) (h_Row_len : GoodF P w K mg base 1 d_Row_len ["self"] (sp_Row_len K w)) : GoodF P w K mg base 5 d_law_gains ["_law_tap_here", "_law_days"] (sp_law_gains K w) := by
  obtain ⟨_, G_Row_eq, F_Row_eq⟩ := h_Row_eq
  obtain ⟨_, G_law_any, F_law_any⟩ := h_law_any
  obtain ⟨_, G_law_drip, F_law_drip⟩ := h_law_drip
  obtain ⟨_, G_Row_len, F_Row_len⟩ := h_Row_len
  obtain ⟨h, X, G, c⟩ := b.ex
  obtain ⟨fd, F⟩ := c.def_ 29 (d := d_law_gains) rfl
  have nd : (N_law_gains).Nodup := sc_law_gains.nd
  refine ⟨fd, F.ok sc_law_gains (fun vs H Q E h => h.1) (fun cdv A outer s H vs Q E hr h => ⟨t_law_gains K w, PSs.nox ?_, h.2⟩), F⟩
  exact (pss_cons (ps_set (i := 2) nd rfl (Or.inl rfl) (pe_fn G_law_drip (hr.mono (by decide)) (by rfl) (n_law_drip b) F_law_drip.kp (bindsP F_law_drip fun _ _ _ _ _ _ us hl => match us, hl with | [_, _], _ => rfl) pass0 (pc_p (pa_cons (pv 0) (pa_cons pe_int pa_nil)))))
  (pss_cons (ps_if (pt_cmpR (og_lt hr.units0) (pv 2) pe_int (nomark _)) (pss_one (ps_ret (pe_lc (own := [("_law_day", 6)]) (g := (gName 6)) (tt := tYes) (by rfl) nd (pi_range1 (by rfl) (g_range b) (pa_cons (pv 1) pa_nil)) (blkOk_by (N := ["_law_tap_here", "_law_days", "_law_way", "_law_few", "_law_found", "_law_at", "_law_day"]) (sc := defScope st_law_gains) (by decide +kernel)) (fun _ _ _ _ _ => (pg_name (i := 6) nd rfl (Or.inl rfl))) (fun _ _ _ _ _ => pts_nil) (fun _ _ _ _ _ => (pe_op og_sub (pe_fn G_law_drip (hr.mono (by decide)) (by rfl) (n_law_drip b) F_law_drip.kp (bindsP F_law_drip fun _ _ _ _ _ _ us hl => match us, hl with | [_, _], _ => rfl) pass0 (pc_p (pa_cons (pv 0) (pa_cons pe_int pa_nil)))) pe_int))))) pss_nil)
  (pss_cons (ps_if (pt_cmpR (OpR.or (og_eq hr.units) (op_eqO (spm_Row_eq b) G_Row_eq (hr.mono (by decide)) (F_Row_eq.bindsN fun _ _ _ _ _ _ us hl => match us, hl with | [_, _], _ => rfl) pass0)) (pv 2) pe_int (nomark _)) (pss_one (ps_ret (pe_lc (own := [("_law_day", 6)]) (g := (gName 6)) (tt := tYes) (by rfl) nd (pi_range1 (by rfl) (g_range b) (pa_cons (pv 1) pa_nil)) (blkOk_by (N := ["_law_tap_here", "_law_days", "_law_way", "_law_few", "_law_found", "_law_at", "_law_day"]) (sc := defScope st_law_gains) (by decide +kernel)) (fun _ _ _ _ _ => (pg_name (i := 6) nd rfl (Or.inl rfl))) (fun _ _ _ _ _ => pts_nil) (fun _ _ _ _ _ => (pe_fn G_law_any (hr.mono (by decide)) (by rfl) (n_law_any b) F_law_any.kp (bindsP F_law_any fun _ _ _ _ _ _ us hl => match us, hl with | [_, _], _ => rfl) pass0 (pc_p (pa_cons (pv 0) (pa_cons (pe_lst (pa_cons pe_int (pa_cons pe_int (pa_cons pe_int (pa_cons pe_int (pa_cons (pe_un un_neg pe_int) pa_nil)))))) pa_nil)))))))) pss_nil)
  (pss_cons (ps_if (pt_cmpR (OpR.or (og_eq hr.units) (op_eqO (spm_Row_eq b) G_Row_eq (hr.mono (by decide)) (F_Row_eq.bindsN fun _ _ _ _ _ _ us hl => match us, hl with | [_, _], _ => rfl) pass0)) (pv 2) pe_int (nomark _)) (pss_one (ps_ret (pe_lc (own := [("_law_day", 6)]) (g := (gName 6)) (tt := tYes) (by rfl) nd (pi_range1 (by rfl) (g_range b) (pa_cons (pv 1) pa_nil)) (blkOk_by (N := ["_law_tap_here", "_law_days", "_law_way", "_law_few", "_law_found", "_law_at", "_law_day"]) (sc := defScope st_law_gains) (by decide +kernel)) (fun _ _ _ _ _ => (pg_name (i := 6) nd rfl (Or.inl rfl))) (fun _ _ _ _ _ => pts_nil) (fun _ _ _ _ _ => (pe_fn G_law_any (hr.mono (by decide)) (by rfl) (n_law_any b) F_law_any.kp (bindsP F_law_any fun _ _ _ _ _ _ us hl => match us, hl with | [_, _], _ => rfl) pass0 (pc_p (pa_cons (pv 0) (pa_cons (pe_lst (pa_cons (pe_op og_pw pe_int pe_int) (pa_cons (pe_op og_sub pe_int (pe_op og_pw pe_int pe_int)) (pa_cons (pe_op og_pw pe_int pe_int) (pa_cons pe_int (pa_cons (pe_un un_neg pe_int) (pa_cons pe_int pa_nil))))))) pa_nil)))))))) pss_nil)
  (pss_cons (ps_set (i := 3) nd rfl (Or.inr rfl) (pe_lc (own := [("_law_day", 6)]) (g := (gName 6)) (tt := tYes) (by rfl) nd (pi_range1 (by rfl) (g_range b) (pa_cons (pe_op og_add pe_int (pe_fn G_law_drip (hr.mono (by decide)) (by rfl) (n_law_drip b) F_law_drip.kp (bindsP F_law_drip fun _ _ _ _ _ _ us hl => match us, hl with | [_, _], _ => rfl) pass0 (pc_p (pa_cons (pv 0) (pa_cons pe_int pa_nil))))) pa_nil)) (blkOk_by (N := ["_law_tap_here", "_law_days", "_law_way", "_law_few", "_law_found", "_law_at", "_law_day"]) (sc := defScope st_law_gains) (by decide +kernel)) (fun _ _ _ _ _ => (pg_name (i := 6) nd rfl (Or.inl rfl))) (fun _ _ _ _ _ => pts_nil) (fun _ _ _ _ _ => (pe_op og_sub (pe_fn G_law_drip (hr.mono (by decide)) (by rfl) (n_law_drip b) F_law_drip.kp (bindsP F_law_drip fun _ _ _ _ _ _ us hl => match us, hl with | [_, _], _ => rfl) pass0 (pc_p (pa_cons (pv 0) (pa_cons pe_int pa_nil)))) pe_int))))
  (pss_cons (ps_if (pt_cmpR (OpR.or (og_eq hr.units) (op_eqO (spm_Row_eq b) G_Row_eq (hr.mono (by decide)) (F_Row_eq.bindsN fun _ _ _ _ _ _ us hl => match us, hl with | [_, _], _ => rfl) pass0)) (pv 2) pe_int (nomark _)) (pss_one (ps_asg (pe_op og_sub (pe_ix ix_seq (pv 3) pe_int (fun _ _ => rfl)) (pe_callB (cg_sum rfl) (by rfl) (g_sum b) (by decide +kernel) (pa_cons (pv 3) pa_nil))) (pg_sub (pv 3) pe_int set_list))) pss_nil)
  (pss_cons (ps_setLc (i := 4) (own := [("_law_day", 6)]) (g := (gName 6)) (tt := tYes) (by rfl) nd rfl rfl (sw_true rfl rfl rfl (by decide +kernel)) (pi_range1 (by rfl) (g_range b) (pa_cons (pv 1) pa_nil)) (blkOk_by (N := ["_law_tap_here", "_law_days", "_law_way", "_law_few", "_law_found", "_law_at", "_law_day"]) (sc := defScope st_law_gains) (by decide +kernel)) (fun _ _ _ _ _ => (pg_name (i := 6) nd rfl (Or.inl rfl))) (fun _ _ _ _ _ => pts_nil) (fun _ _ _ _ _ => (pe_ix ix_seq (pv 3) (pe_op og_md (pe_callTy cg_int (by rfl) (g_int b) boot_int (pa_cons (pv 6) pa_nil)) (pe_callB (Rl.CallR.or cg_len (call_lenO (spm_Row_len b) G_Row_len (hr.mono (by decide)) (F_Row_len.bindsN fun _ _ _ _ _ _ us hl => match us, hl with | [_], _ => rfl) pass0)) (by rfl) (g_len b) boot_len (pa_cons (pv 3) pa_nil))) (fun _ _ => rfl))))
  (pss_cons (ps_if (pt_cmpR (OpR.or (og_eq hr.units) (op_eqO (spm_Row_eq b) G_Row_eq (hr.mono (by decide)) (F_Row_eq.bindsN fun _ _ _ _ _ _ us hl => match us, hl with | [_, _], _ => rfl) pass0)) (pv 2) pe_int (nomark _)) (pss_cons (ps_set (i := 5) nd rfl (Or.inl rfl) (pe_fn G_law_drip (hr.mono (by decide)) (by rfl) (n_law_drip b) F_law_drip.kp (bindsP F_law_drip fun _ _ _ _ _ _ us hl => match us, hl with | [_, _], _ => rfl) pass0 (pc_p (pa_cons (pv 0) (pa_cons (pv 1) pa_nil)))))
  (pss_one (ps_asg (pe_op og_add (pe_ix ix_seq (pv 4) (pv 5) (fun _ _ => rfl)) (pe_fn G_law_any (hr.mono (by decide)) (by rfl) (n_law_any b) F_law_any.kp (bindsP F_law_any fun _ _ _ _ _ _ us hl => match us, hl with | [_, _], _ => rfl) pass0 (pc_p (pa_cons (pv 0) (pa_cons (pe_lst (pa_cons pe_int (pa_cons (pe_un un_neg pe_int) (pa_cons pe_int pa_nil)))) pa_nil))))) (pg_sub (pv 4) (pv 5) set_list)))) pss_nil)
  (pss_one (ps_ret (pv 4)))))))))))
theorem sc_law_known : FnScope N_law_known ["_law_tap_here"] (defScope st_law_known) := ⟨rfl, rfl, rfl, by decide +kernel, rfl, by decide +kernel, by decide +kernel⟩
theorem ok_law_known (b : Bd K mg) (h_law_any : GoodF P w K mg base 4 d_law_any ["_law_tap_here", "_law_some"] (sp_law_any K w)) : GoodF P w K mg base 5 d_law_known ["_law_tap_here"] (sp_law_known K w) := by
  obtain ⟨_, G_law_any, F_law_any⟩ := h_law_any
  obtain ⟨h, X, G, c⟩ := b.ex
  obtain ⟨fd, F⟩ := c.def_ 30 (d := d_law_known) rfl
  have nd : (N_law_known).Nodup := sc_law_known.nd
  refine ⟨fd, F.ok sc_law_known (fun vs H Q E h => h.1) (fun cdv A outer s H vs Q E hr h => ⟨t_law_known K w, PSs.nox ?_, h.2⟩), F⟩
  exact (pss_one (ps_ret (pe_fn G_law_any (hr.mono (by decide)) (by rfl) (n_law_any b) F_law_any.kp (bindsP F_law_any fun _ _ _ _ _ _ us hl => match us, hl with | [_, _], _ => rfl) pass0 (pc_p (pa_cons (pv 0) (pa_cons (pe_lst (pa_cons (pe_lst (pa_cons (pe_un un_neg pe_int) (pa_cons pe_int (pa_cons (pe_un un_neg pe_int) (pa_cons (pe_un un_neg pe_int) (pa_cons pe_int (pa_cons (pe_un un_neg pe_int) pa_nil))))))) (pa_cons (pe_lst (pa_cons pe_int (pa_cons pe_int (pa_cons (pe_un un_neg pe_int) (pa_cons pe_int (pa_cons pe_int (pa_cons pe_int (pa_cons (pe_un un_neg pe_int) (pa_cons pe_int (pa_cons pe_int (pa_cons (pe_un un_neg pe_int) (pa_cons pe_int (pa_cons pe_int (pa_cons pe_int (pa_cons (pe_un un_neg pe_int) (pa_cons pe_int (pa_cons pe_int pa_nil))))))))))))))))) (pa_cons (pe_lst (pa_cons (pe_un un_neg pe_int) (pa_cons pe_int (pa_cons (pe_un un_neg pe_int) (pa_cons (pe_un un_neg pe_int) (pa_cons pe_int (pa_cons pe_int (pa_cons (pe_un un_neg pe_int) pa_nil)))))))) (pa_cons (pe_lst (pa_cons pe_int (pa_cons (pe_un un_neg pe_int) (pa_cons pe_int (pa_cons (pe_un un_neg pe_int) (pa_cons pe_int pa_nil)))))) (pa_cons (pe_lst (pa_cons pe_int (pa_cons pe_int (pa_cons pe_int pa_nil)))) (pa_cons (pe_lst (pa_cons (pe_un un_neg pe_int) (pa_cons pe_int (pa_cons (pe_un un_neg pe_int) pa_nil)))) (pa_cons (pe_lst (pa_cons pe_int pa_nil)) pa_nil)))))))) pa_nil))))))
theorem sc_law_tap : FnScope N_law_tap ["_law_script"] (defScope st_law_tap) := ⟨rfl, rfl, rfl, by decide +kernel, rfl, by decide +kernel, by decide +kernel⟩
theorem ok_law_tap (b : Bd K mg)  : GoodF P w K mg base 1 d_law_tap ["_law_script"] (sp_law_tap K w) := by
  obtain ⟨h, X, G, c⟩ := b.ex
  obtain ⟨fd, F⟩ := c.def_ 31 (d := d_law_tap) rfl
  have nd : (N_law_tap).Nodup := sc_law_tap.nd
  refine ⟨fd, F.ok sc_law_tap (fun vs H Q E h => h.1) (fun cdv A outer s H vs Q E hr h => ⟨t_law_tap K w, PSs.nox ?_, h.2⟩), F⟩
  exact (pss_one (ps_ret (pe_lst (pa_cons (pe_lc (own := [("_law_cell", 1)]) (g := (gName 1)) (tt := tYes) (by rfl) nd (pi_seq (pe_slice sg_all (pv 0) po_none (po_some pe_int))) (blkOk_by (N := ["_law_script", "_law_cell"]) (sc := defScope st_law_tap) (by decide +kernel)) (fun _ _ _ _ _ => (pg_name (i := 1) nd rfl (Or.inl rfl))) (fun _ _ _ _ _ => pts_nil) (fun _ _ _ _ _ => (pe_callTy cg_int (by rfl) (g_int b) boot_int (pa_cons (pv 1) pa_nil)))) (pa_cons pe_int (pa_cons pe_int pa_nil))))))
theorem sc_law : FnScope N_law ["_law_script"] (defScope st_law) := ⟨rfl, rfl, rfl, by decide +kernel, rfl, by decide +kernel, by decide +kernel⟩
theorem ok_law (b : Bd K mg) (h_law_twice_right : GoodF P w K mg base 6 d_law_twice_right ["_law_gains_here"] (sp_law_twice_right K w)) (h_law_joined_right : GoodF P w K mg base 6 d_law_joined_right ["_law_gains_here", "_law_others"] (sp_law_joined_right K w)) (h_law_added_right : GoodF P w K mg base 6 d_law_added_right ["_law_gains_here", "_law_others"] (sp_law_added_right K w)) (h_law_alone_right : GoodF P w K mg base 6 d_law_alone_right ["_law_tap_here", "_law_gains_here"] (sp_law_alone_right K w)) (h_Row_eq : GoodF P w K mg base 1 d_Row_eq ["self", "other"] (sp_Row_eq K w)) (h_law_drip : GoodF P w K mg base 3 d_law_drip ["_law_tap_here", "_law_many"] (sp_law_drip K w)) (h_law_any : GoodF P w K mg base 4 d_law_any ["_law_tap_here", "_law_some"] (sp_law_any K w)) (h_law_gains : GoodF P w K mg base 5 d_law_gains ["_law_tap_here", "_law_days"] (sp_law_gains K w)) (h_law_known : GoodF P w K mg base 5 d_law_known ["_law_tap_here"] (sp_law_known K w)) (h_law_tap : GoodF P w K mg base 1 d_law_tap ["_law_script"] (sp_law_tap K w)) : GoodF P w K mg base 7 d_law ["_law_script"] (sp_law K w) := by
  obtain ⟨_, G_law_twice_right, F_law_twice_right⟩ := h_law_twice_right
  obtain ⟨_, G_law_joined_right, F_law_joined_right⟩ := h_law_joined_right
  obtain ⟨_, G_law_added_right, F_law_added_right⟩ := h_law_added_right
  obtain ⟨_, G_law_alone_right, F_law_alone_right⟩ := h_law_alone_right
  obtain ⟨_, G_Row_eq, F_Row_eq⟩ := h_Row_eq
  obtain ⟨_, G_law_drip, F_law_drip⟩ := h_law_drip
  obtain ⟨_, G_law_any, F_law_any⟩ := h_law_any
  obtain ⟨_, G_law_gains, F_law_gains⟩ := h_law_gains
  obtain ⟨_, G_law_known, F_law_known⟩ := h_law_known
  obtain ⟨_, G_law_tap, F_law_tap⟩ := h_law_tap
  obtain ⟨h, X, G, c⟩ := b.ex
  obtain ⟨fd, F⟩ := c.def_ 32 (d := d_law) rfl
  have nd : (N_law).Nodup := sc_law.nd
  refine ⟨fd, F.ok sc_law (fun vs H Q E h => h.1) (fun cdv A outer s H vs Q E hr h => ⟨t_law K w, PSs.nox ?_, h.2⟩), F⟩
  exact (pss_cons (ps_set (i := 1) nd rfl (Or.inr rfl) (pe_fn G_law_tap (hr.mono (by decide)) (by rfl) (n_law_tap b) F_law_tap.kp (bindsP F_law_tap fun _ _ _ _ _ _ us hl => match us, hl with | [_], _ => rfl) pass0 (pc_p (pa_cons (pv 0) pa_nil))))
  (pss_cons (ps_for PassesOwn.never rfl (pi_range1 (by rfl) (g_range b) (pa_cons pe_int pa_nil)) (pg_name (i := 2) nd rfl (Or.inl rfl)) (pss_cons (ps_set (i := 3) nd rfl (Or.inl rfl) (pe_fn G_law_gains (hr.mono (by decide)) (by rfl) (n_law_gains b) F_law_gains.kp (bindsP F_law_gains fun _ _ _ _ _ _ us hl => match us, hl with | [_, _], _ => rfl) pass0 (pc_p (pa_cons (pv 1) (pa_cons (pe_fn G_law_any (hr.mono (by decide)) (by rfl) (n_law_any b) F_law_any.kp (bindsP F_law_any fun _ _ _ _ _ _ us hl => match us, hl with | [_, _], _ => rfl) pass0 (pc_p (pa_cons (pv 1) (pa_cons (pe_lst (pa_cons pe_int (pa_cons pe_int (pa_cons pe_int (pa_cons pe_int (pa_cons pe_int (pa_cons pe_int (pa_cons pe_int (pa_cons pe_int (pa_cons pe_int (pa_cons pe_int pa_nil))))))))))) pa_nil)))) pa_nil)))))
  (pss_cons (ps_if (pt_cmpR (OpR.or (og_eq hr.units) (op_eqO (spm_Row_eq b) G_Row_eq (hr.mono (by decide)) (F_Row_eq.bindsN fun _ _ _ _ _ _ us hl => match us, hl with | [_, _], _ => rfl) pass0)) (pe_fn G_law_drip (hr.mono (by decide)) (by rfl) (n_law_drip b) F_law_drip.kp (bindsP F_law_drip fun _ _ _ _ _ _ us hl => match us, hl with | [_, _], _ => rfl) pass0 (pc_p (pa_cons (pv 1) (pa_cons pe_int pa_nil)))) pe_int (nomark _)) (pss_one (ps_set (i := 3) nd rfl (Or.inl rfl) (pe_fn G_law_known (hr.mono (by decide)) (by rfl) (n_law_known b) F_law_known.kp (bindsP F_law_known fun _ _ _ _ _ _ us hl => match us, hl with | [_], _ => rfl) pass0 (pc_p (pa_cons (pv 1) pa_nil))))) pss_nil)
  (pss_cons (ps_set (i := 4) nd rfl (Or.inl rfl) (pe_fn G_law_gains (hr.mono (by decide)) (by rfl) (n_law_gains b) F_law_gains.kp (bindsP F_law_gains fun _ _ _ _ _ _ us hl => match us, hl with | [_, _], _ => rfl) pass0 (pc_p (pa_cons (pv 1) (pa_cons (pe_callB cg_len (by rfl) (g_len b) boot_len (pa_cons (pv 3) pa_nil)) pa_nil)))))
  (pss_cons (ps_if (pt_cmpR (OpR.or (og_eq hr.units) (op_eqO (spm_Row_eq b) G_Row_eq (hr.mono (by decide)) (F_Row_eq.bindsN fun _ _ _ _ _ _ us hl => match us, hl with | [_, _], _ => rfl) pass0)) (pe_fn G_law_drip (hr.mono (by decide)) (by rfl) (n_law_drip b) F_law_drip.kp (bindsP F_law_drip fun _ _ _ _ _ _ us hl => match us, hl with | [_, _], _ => rfl) pass0 (pc_p (pa_cons (pv 1) (pa_cons pe_int pa_nil)))) pe_int (nomark _)) (pss_one (ps_set (i := 4) nd rfl (Or.inl rfl) (pe_ifExp (pt_cmpR (OpR.or (og_eq hr.units) (op_eqO (spm_Row_eq b) G_Row_eq (hr.mono (by decide)) (F_Row_eq.bindsN fun _ _ _ _ _ _ us hl => match us, hl with | [_, _], _ => rfl) pass0)) (pe_fn G_law_drip (hr.mono (by decide)) (by rfl) (n_law_drip b) F_law_drip.kp (bindsP F_law_drip fun _ _ _ _ _ _ us hl => match us, hl with | [_, _], _ => rfl) pass0 (pc_p (pa_cons (pv 1) (pa_cons pe_int pa_nil)))) pe_int (nomark _)) (pe_op og_mulT (pe_lst (pa_cons pe_int pa_nil)) (pe_callB cg_len (by rfl) (g_len b) boot_len (pa_cons (pv 3) pa_nil))) (pe_lc (own := [("_law_gain", 5)]) (g := (gName 5)) (tt := tYes) (by rfl) nd (pi_seq (pv 3)) (blkOk_by (N := ["_law_script", "_law_tap_here", "_law_turn", "_law_gains_here", "_law_others", "_law_gain"]) (sc := defScope st_law) (by decide +kernel)) (fun _ _ _ _ _ => (pg_name (i := 5) nd rfl (Or.inl rfl))) (fun _ _ _ _ _ => pts_nil) (fun _ _ _ _ _ => (pe_op og_mulT (pe_fn G_law_any (hr.mono (by decide)) (by rfl) (n_law_any b) F_law_any.kp (bindsP F_law_any fun _ _ _ _ _ _ us hl => match us, hl with | [_, _], _ => rfl) pass0 (pc_p (pa_cons (pv 1) (pa_cons (pe_lst (pa_cons pe_int (pa_cons (pe_un un_neg pe_int) (pa_cons pe_int pa_nil)))) pa_nil)))) (pv 5))))))) pss_nil)
  (pss_cons (ps_if (PW.pt (pw_or (pt_not (pt_truth (pe_fn G_law_alone_right (hr.mono (by decide)) (by rfl) (n_law_alone_right b) F_law_alone_right.kp (bindsP F_law_alone_right fun _ _ _ _ _ _ us hl => match us, hl with | [_, _], _ => rfl) pass0 (pc_p (pa_cons (pv 1) (pa_cons (pv 3) pa_nil)))) (by intro _; rfl))) (pw_or1 (pt_not (pt_truth (pe_fn G_law_added_right (hr.mono (by decide)) (by rfl) (n_law_added_right b) F_law_added_right.kp (bindsP F_law_added_right fun _ _ _ _ _ _ us hl => match us, hl with | [_, _], _ => rfl) pass0 (pc_p (pa_cons (pv 3) (pa_cons (pv 4) pa_nil)))) (by intro _; rfl)))))) (pss_one (ps_ret pe_bl)) pss_nil)
  (pss_one (ps_if (PW.pt (pw_or (pt_not (pt_truth (pe_fn G_law_joined_right (hr.mono (by decide)) (by rfl) (n_law_joined_right b) F_law_joined_right.kp (bindsP F_law_joined_right fun _ _ _ _ _ _ us hl => match us, hl with | [_, _], _ => rfl) pass0 (pc_p (pa_cons (pv 3) (pa_cons (pv 4) pa_nil)))) (by intro _; rfl))) (pw_or1 (pt_not (pt_truth (pe_fn G_law_twice_right (hr.mono (by decide)) (by rfl) (n_law_twice_right b) F_law_twice_right.kp (bindsP F_law_twice_right fun _ _ _ _ _ _ us hl => match us, hl with | [_], _ => rfl) pass0 (pc_p (pa_cons (pv 3) pa_nil))) (by intro _; rfl)))))) (pss_one (ps_ret pe_bl)) pss_nil))))))))
  (pss_one (ps_ret pe_bl))))
end
end K10

set_option Elab.async false
set_option linter.all false
set_option maxRecDepth 100000
set_option maxHeartbeats 4000000
namespace K10
open PySem PySem.Spec PyProof.Rows L2 Rl RZ RT Px
section
variable {K : PySem.W.Frag} {mg : Str → Option Value} {w : World}
theorem ct_ok (b : Bd K mg) : CTok K clsT := ⟨(memC (memC (kit_NoneType_Row b) (memC (kit_bool_Row b) (memC (kit_int_Row b) (memC (kit_str_Row b) (memC (kit_list_Row b) (memC (kit_tuple_Row b) memN)))))) memN),
  (memC (memC (kitO_Row_Row b) memN) memN),
  (memC (memC (kitT_Row_NoneType b) (memC (kitT_Row_bool b) (memC (kitT_Row_int b) (memC (kitT_Row_str b) (memC (kitT_Row_list b) (memC (kitT_Row_tuple b) memN)))))) memN)⟩
theorem sd_Row_eq (b : Bd K mg)  : SdF K (sp_Row_eq K w) w_Row_eq := by
  rw [w_Row_eq_eq]
  exact sdf_of (ts := t_Row_eq K w) (N := N_Row_eq) rfl (fun vs H Q EX h => h) (by
  unfold t_Row_eq
  exact (sds_ret (sd_andT (sd_cb (s_isi (ct_ok b)) (sda_cons sd_var (sda_cons sd_cls sda_nil))) (sd_op s_eq (sd_fld sd_var) (sd_fld sd_var)))))
theorem sd_word_of (b : Bd K mg)  : SdF K (sp_word_of K w) w_word_of := by
  rw [w_word_of_eq]
  exact sdf_of (ts := t_word_of K w) (N := N_word_of) rfl (fun vs H Q EX h => h) (by
  unfold t_word_of
  exact (sds_seq (sds_if (sdt_test (sd_op s_gt (sd_cb s_minT (sda_cons sd_var sda_nil)) sd_int)) (sds_ret sd_str) sds_next)
  (sds_kill (sds_seq (sds_if (sdt_test (sd_op s_lt (sd_cb s_maxT (sda_cons sd_var sda_nil)) sd_int)) (sds_ret sd_str) sds_next)
  (sds_kill (sds_ret (sd_if (sdt_and (sdt_test (sd_op s_eq (sd_cb s_minT (sda_cons sd_var sda_nil)) sd_int)) (sdt_test (sd_op s_eq (sd_cb s_maxT (sda_cons sd_var sda_nil)) sd_int))) sd_str sd_str)))))))
theorem sd_sums_in (b : Bd K mg)  : SdF K (sp_sums_in K w) w_sums_in := by
  rw [w_sums_in_eq]
  exact sdf_of (ts := t_sums_in K w) (N := N_sums_in) rfl (fun vs H Q EX h => h) (by
  unfold t_sums_in
  exact (sds_ret (sd_cb s_tuple (sda_cons (sd_lc (gin_tup (gin_cons (gin_name rfl) (gin_cons (gin_name rfl) gin_nil))) (sdi_zip (sda_cons (sd_fld sd_var) (sda_cons (sd_sl (sd_fld sd_var) (sdo_some sd_var) sdo_none) sda_nil))) (sdg_tup (sdgs_cons sdg_name (sdgs_cons sdg_name sdgs_nil))) sdt_yes (sd_op s_sub sd_var sd_var)) sda_nil))))
theorem sd_need_row (b : Bd K mg)  : SdF K (sp_need_row K w) w_need_row := by
  rw [w_need_row_eq]
  exact sdf_of (ts := t_need_row K w) (N := N_need_row) rfl (fun vs H Q EX h => h) (by
  unfold t_need_row
  exact (sds_if (sdt_not (sdt_tru (sd_cb (s_isi (ct_ok b)) (sda_cons sd_var (sda_cons sd_cls sda_nil))))) sds_never sds_next))
theorem sd_table_words (b : Bd K mg) (S_word_of : SdF K (sp_word_of K w) w_word_of) (S_sums_in : SdF K (sp_sums_in K w) w_sums_in) (S_need_row : SdF K (sp_need_row K w) w_need_row) : SdF K (sp_table_words K w) w_table_words := by
  rw [w_table_words_eq]
  exact sdf_of (ts := t_table_words K w) (N := N_table_words) rfl (fun vs H Q EX h => h) (by
  unfold t_table_words
  exact (sds_seq (sds_drop (sd_fn S_need_row (sdc_p (sda_cons sd_var (sda_cons sd_str sda_nil)))))
  (sds_ret (sd_cb s_tuple (sda_cons (sd_lc (gin_name rfl) (sdi_r2 (sda_cons sd_int (sda_cons (sd_op s_add (sd_fld sd_var) sd_int) sda_nil))) sdg_name sdt_yes (sd_fn S_word_of (sdc_p (sda_cons (sd_fn S_sums_in (sdc_p (sda_cons sd_var (sda_cons sd_var sda_nil)))) sda_nil)))) sda_nil)))))
theorem sd_is_integer (b : Bd K mg)  : SdF K (sp_is_integer K w) w_is_integer := by
  rw [w_is_integer_eq]
  exact sdf_of (ts := t_is_integer K w) (N := N_is_integer) rfl (fun vs H Q EX h => h) (by
  unfold t_is_integer
  exact (sds_ret (sd_andT (sd_cb (s_isi (ct_ok b)) (sda_cons sd_var (sda_cons sd_ty sda_nil))) (sd_notT (sd_cb (s_isi (ct_ok b)) (sda_cons sd_var (sda_cons sd_ty sda_nil)))))))
theorem sd_is_within (b : Bd K mg) (S_is_integer : SdF K (sp_is_integer K w) w_is_integer) : SdF K (sp_is_within K w) w_is_within := by
  rw [w_is_within_eq]
  exact sdf_of (ts := t_is_within K w) (N := N_is_within) rfl (fun vs H Q EX h => h) (by
  unfold t_is_within
  exact (sds_seq (sds_if (sdt_not (sdt_tru (sd_fn S_is_integer (sdc_p (sda_cons sd_var sda_nil))))) (sds_ret sd_bl) sds_next)
  (sds_kill (sds_ret (sd_andT (sd_orT (sd_op s_is sd_var sd_non) (sd_op s_le sd_var sd_var)) (sd_orT (sd_op s_is sd_var sd_non) (sd_op s_le sd_var sd_var)))))))
theorem sd_need_number (b : Bd K mg) (S_is_within : SdF K (sp_is_within K w) w_is_within) : SdF K (sp_need_number K w) w_need_number := by
  rw [w_need_number_eq]
  exact sdf_of (ts := t_need_number K w) (N := N_need_number) rfl (fun vs H Q EX h => h) (by
  unfold t_need_number
  exact (sds_if (sdt_not (sdt_tru (sd_fn S_is_within (sdc_p (sda_cons sd_var (sda_cons sd_var (sda_cons sd_var sda_nil))))))) sds_never sds_next))
theorem sd_need_length (b : Bd K mg) (S_need_number : SdF K (sp_need_number K w) w_need_number) (S_need_row : SdF K (sp_need_row K w) w_need_row) : SdF K (sp_need_length K w) w_need_length := by
  rw [w_need_length_eq]
  exact sdf_of (ts := t_need_length K w) (N := N_need_length) rfl (fun vs H Q EX h => h) (by
  unfold t_need_length
  exact (sds_seq (sds_drop (sd_fn S_need_row (sdc_p (sda_cons sd_var (sda_cons sd_str sda_nil)))))
  (sds_drop (sd_fn S_need_number (sdc_p (sda_cons sd_var (sda_cons sd_str (sda_cons sd_int (sda_cons (sd_fld sd_var) sda_nil)))))))))
theorem sd_sort_of (b : Bd K mg) (S_word_of : SdF K (sp_word_of K w) w_word_of) (S_sums_in : SdF K (sp_sums_in K w) w_sums_in) (S_need_length : SdF K (sp_need_length K w) w_need_length) : SdF K (sp_sort_of K w) w_sort_of := by
  rw [w_sort_of_eq]
  exact sdf_of (ts := t_sort_of K w) (N := N_sort_of) rfl (fun vs H Q EX h => h) (by
  unfold t_sort_of
  exact (sds_seq (sds_drop (sd_fn S_need_length (sdc_p (sda_cons sd_var (sda_cons sd_var sda_nil)))))
  (sds_ret (sd_fn S_word_of (sdc_p (sda_cons (sd_fn S_sums_in (sdc_p (sda_cons sd_var (sda_cons sd_var sda_nil)))) sda_nil))))))
theorem sd_sums (b : Bd K mg) (S_sums_in : SdF K (sp_sums_in K w) w_sums_in) (S_need_length : SdF K (sp_need_length K w) w_need_length) : SdF K (sp_sums K w) w_sums := by
  rw [w_sums_eq]
  exact sdf_of (ts := t_sums K w) (N := N_sums) rfl (fun vs H Q EX h => h) (by
  unfold t_sums
  exact (sds_seq (sds_drop (sd_fn S_need_length (sdc_p (sda_cons sd_var (sda_cons sd_var sda_nil)))))
  (sds_ret (sd_fn S_sums_in (sdc_p (sda_cons sd_var (sda_cons sd_var sda_nil)))))))
theorem sd_heights_of (b : Bd K mg)  : SdF K (sp_heights_of K w) w_heights_of := by
  rw [w_heights_of_eq]
  exact sdf_of (ts := t_heights_of K w) (N := N_heights_of) rfl (fun vs H Q EX h => h) (by
  unfold t_heights_of
  exact (sds_seq (sds_asg (sd_lst (sda_cons sd_int sda_nil)) sdg_name)
  (sds_seq (sds_for (ks := [0, 2]) (sdi_any sd_var) sdg_name (sds_drop (sd_bl_ s_app sd_var (sda_cons (sd_op s_add (sd_op s_ix sd_var (sd_un s_neg sd_int)) sd_var) sda_nil))))
  (sds_ret (sd_dp (sd_cb s_tuple (sda_cons sd_var sda_nil)))))))
theorem sd_are_integers (b : Bd K mg) (S_is_integer : SdF K (sp_is_integer K w) w_is_integer) : SdF K (sp_are_integers K w) w_are_integers := by
  rw [w_are_integers_eq]
  exact sdf_of (ts := t_are_integers K w) (N := N_are_integers) rfl (fun vs H Q EX h => h) (by
  unfold t_are_integers
  exact (sds_ret (sd_andT (sd_isi2 sd_var) (sd_cb s_all (sda_cons (sd_lc (gin_name rfl) (sdi_any sd_var) sdg_name sdt_yes (sd_fn S_is_integer (sdc_p (sda_cons sd_var sda_nil)))) sda_nil)))))
theorem sd_Row_init (b : Bd K mg) (S_heights_of : SdF K (sp_heights_of K w) w_heights_of) (S_are_integers : SdF K (sp_are_integers K w) w_are_integers) : SdF K (sp_Row_init K w) w_Row_init := by
  rw [w_Row_init_eq]
  exact sdf_of (ts := t_Row_init K w) (N := N_Row_init) rfl (fun vs H Q EX h => h) (by
  unfold t_Row_init
  exact (sds_seq (sds_if (sdt_or (sdt_not (sdt_tru (sd_fn S_are_integers (sdc_p (sda_cons sd_var sda_nil))))) (sdt_test (sd_op s_eq (sd_cb s_len (sda_cons sd_var sda_nil)) sd_int))) sds_never sds_next)
  (sds_kill (sds_seq (sds_if (sdt_test (sd_op s_gt (sd_cb s_len (sda_cons sd_var sda_nil)) sd_int)) sds_never sds_next)
  (sds_kill (sds_seq (sds_fld (memC (na_Row_gains b) memN) sd_var (sd_cb s_tuple (sda_cons sd_var sda_nil)))
  (sds_seq (sds_fld (memC (na_Row_heights b) memN) sd_var (sd_fn S_heights_of (sdc_p (sda_cons sd_var sda_nil))))
  (sds_seq (sds_fld (memC (na_Row_days b) memN) sd_var (sd_cb s_len (sda_cons sd_var sda_nil)))
  (sds_fld (memC (na_Row_total b) memN) sd_var (sd_op s_ix (sd_fld sd_var) (sd_un s_neg sd_int)))))))))))
theorem sd_Row_joined (b : Bd K mg) (S_Row_init : SdF K (sp_Row_init K w) w_Row_init) (S_need_row : SdF K (sp_need_row K w) w_need_row) : SdF K (sp_Row_joined K w) w_Row_joined := by
  rw [w_Row_joined_eq]
  exact sdf_of (ts := t_Row_joined K w) (N := N_Row_joined) rfl (fun vs H Q EX h => h) (by
  unfold t_Row_joined
  exact (sds_seq (sds_drop (sd_fn S_need_row (sdc_p (sda_cons sd_var (sda_cons sd_str sda_nil)))))
  (sds_ret (sd_new S_Row_init ⟨cl_Row b, ty_Row b, fun f hf => nomatch hf⟩ (sdc_p (sda_cons (sd_lst (sda_star (sd_fld sd_var) (sda_star (sd_fld sd_var) sda_nil))) sda_nil))))))
theorem sd_Row_len (b : Bd K mg)  : SdF K (sp_Row_len K w) w_Row_len := by
  rw [w_Row_len_eq]
  exact sdf_of (ts := t_Row_len K w) (N := N_Row_len) rfl (fun vs H Q EX h => h) (by
  unfold t_Row_len
  exact (sds_ret (sd_cb s_len (sda_cons (sd_fld sd_var) sda_nil))))
theorem sd_law_twice_right (b : Bd K mg) (S_Row_eq : SdF K (sp_Row_eq K w) w_Row_eq) (S_table_words : SdF K (sp_table_words K w) w_table_words) (S_sort_of : SdF K (sp_sort_of K w) w_sort_of) (S_sums : SdF K (sp_sums K w) w_sums) (S_Row_joined : SdF K (sp_Row_joined K w) w_Row_joined) (S_Row_len : SdF K (sp_Row_len K w) w_Row_len) (S_Row_init : SdF K (sp_Row_init K w) w_Row_init) : SdF K (sp_law_twice_right K w) w_law_twice_right := by
  rw [w_law_twice_right_eq]
  exact sdf_of (ts := t_law_twice_right K w) (N := N_law_twice_right) rfl (fun vs H Q EX h => h) (by
  unfold t_law_twice_right
  exact (sds_seq (sds_par3 (sda_cons (sd_new S_Row_init ⟨cl_Row b, ty_Row b, fun f hf => nomatch hf⟩ (sdc_p (sda_cons sd_var sda_nil))) (sda_cons (sd_cb (s_lenO S_Row_len s_len) (sda_cons sd_var sda_nil)) (sda_cons (sd_cb s_sum (sda_cons sd_var sda_nil)) sda_nil))))
  (sds_seq (sds_asg (sd_mt S_Row_joined sd_var (sdc_p (sda_cons sd_var sda_nil))) sdg_name)
  (sds_seq (sds_if (sdt_test (sd_op (s_neO (memC (nf_NoneType_Row b) (memC (nf_bool_Row b) (memC (nf_int_Row b) (memC (nf_str_Row b) (memC (nf_list_Row b) (memC (nf_tuple_Row b) memN)))))) (memC (nfO_Row_Row b) memN) S_Row_eq s_ne) (sd_fn S_sums (sdc_p (sda_cons sd_var (sda_cons sd_var sda_nil)))) (sd_op s_mulT (sd_tup (sda_cons sd_var sda_nil)) (sd_op s_add sd_var sd_int)))) (sds_ret sd_bl) sds_next)
  (sds_kill (sds_seq (sds_if (sdt_or (sdt_test (sd_op (s_neO (memC (nf_NoneType_Row b) (memC (nf_bool_Row b) (memC (nf_int_Row b) (memC (nf_str_Row b) (memC (nf_list_Row b) (memC (nf_tuple_Row b) memN)))))) (memC (nfO_Row_Row b) memN) S_Row_eq s_ne) (sd_fn S_sort_of (sdc_p (sda_cons sd_var (sda_cons sd_var sda_nil)))) (sd_if (sdt_test (sd_op s_gt sd_var sd_int)) sd_str (sd_if (sdt_test (sd_op s_lt sd_var sd_int)) sd_str sd_str)))) (sdt_test (sd_op (s_neO (memC (nf_NoneType_Row b) (memC (nf_bool_Row b) (memC (nf_int_Row b) (memC (nf_str_Row b) (memC (nf_list_Row b) (memC (nf_tuple_Row b) memN)))))) (memC (nfO_Row_Row b) memN) S_Row_eq s_ne) (sd_fn S_sort_of (sdc_p (sda_cons sd_var (sda_cons (sd_op s_mulT sd_int sd_var) sda_nil)))) (sd_fn S_sort_of (sdc_p (sda_cons sd_var (sda_cons sd_var sda_nil))))))) (sds_ret sd_bl) sds_next)
  (sds_kill (sds_ret (sd_orT (sd_op (s_neO (memC (nf_NoneType_Row b) (memC (nf_bool_Row b) (memC (nf_int_Row b) (memC (nf_str_Row b) (memC (nf_list_Row b) (memC (nf_tuple_Row b) memN)))))) (memC (nfO_Row_Row b) memN) S_Row_eq s_ne) sd_var sd_int) (sd_op (s_eqO (memC (nf_NoneType_Row b) (memC (nf_bool_Row b) (memC (nf_int_Row b) (memC (nf_str_Row b) (memC (nf_list_Row b) (memC (nf_tuple_Row b) memN)))))) (memC (nfO_Row_Row b) memN) S_Row_eq s_eq) (sd_lc (gin_name rfl) (sdi_any (sd_sl (sd_fn S_table_words (sdc_p (sda_cons sd_var sda_nil))) sdo_none (sdo_some sd_var))) sdg_name (sdt_test (sd_op s_in sd_var (sd_tup (sda_cons sd_str (sda_cons sd_str sda_nil))))) sd_var) (sd_lst sda_nil)))))))))))
theorem sd_law_word (b : Bd K mg) (S_Row_eq : SdF K (sp_Row_eq K w) w_Row_eq) (S_Row_len : SdF K (sp_Row_len K w) w_Row_len) : SdF K (sp_law_word K w) w_law_word := by
  rw [w_law_word_eq]
  exact sdf_of (ts := t_law_word K w) (N := N_law_word) rfl (fun vs H Q EX h => h) (by
  unfold t_law_word
  exact (sds_seq (sds_par (sda_cons (sd_cb (s_lenO S_Row_len s_len) (sda_cons (sd_lc (gin_name rfl) (sdi_any sd_var) sdg_name (sdt_test (sd_op s_gt sd_var sd_int)) sd_var) sda_nil)) (sda_cons (sd_cb (s_lenO S_Row_len s_len) (sda_cons (sd_lc (gin_name rfl) (sdi_any sd_var) sdg_name (sdt_test (sd_op s_lt sd_var sd_int)) sd_var) sda_nil)) sda_nil)))
  (sds_seq (sds_if (sdt_test (sd_op (s_eqO (memC (nf_NoneType_Row b) (memC (nf_bool_Row b) (memC (nf_int_Row b) (memC (nf_str_Row b) (memC (nf_list_Row b) (memC (nf_tuple_Row b) memN)))))) (memC (nfO_Row_Row b) memN) S_Row_eq s_eq) sd_var (sd_cb (s_lenO S_Row_len s_len) (sda_cons sd_var sda_nil)))) (sds_ret sd_str) sds_next)
  (sds_kill (sds_seq (sds_if (sdt_test (sd_op (s_eqO (memC (nf_NoneType_Row b) (memC (nf_bool_Row b) (memC (nf_int_Row b) (memC (nf_str_Row b) (memC (nf_list_Row b) (memC (nf_tuple_Row b) memN)))))) (memC (nfO_Row_Row b) memN) S_Row_eq s_eq) sd_var (sd_cb (s_lenO S_Row_len s_len) (sda_cons sd_var sda_nil)))) (sds_ret sd_str) sds_next)
  (sds_kill (sds_ret (sd_if (sdt_test (sd_op (s_eqO (memC (nf_NoneType_Row b) (memC (nf_bool_Row b) (memC (nf_int_Row b) (memC (nf_str_Row b) (memC (nf_list_Row b) (memC (nf_tuple_Row b) memN)))))) (memC (nfO_Row_Row b) memN) S_Row_eq s_eq) (sd_op s_add sd_var sd_var) sd_int)) sd_str sd_str))))))))
theorem sd_law_sums (b : Bd K mg) (S_Row_len : SdF K (sp_Row_len K w) w_Row_len) : SdF K (sp_law_sums K w) w_law_sums := by
  rw [w_law_sums_eq]
  exact sdf_of (ts := t_law_sums K w) (N := N_law_sums) rfl (fun vs H Q EX h => h) (by
  unfold t_law_sums
  exact (sds_ret (sd_lc (gin_name rfl) (sdi_r1 (sda_cons (sd_op s_add (sd_op s_sub (sd_cb (s_lenO S_Row_len s_len) (sda_cons sd_var sda_nil)) sd_var) sd_int) sda_nil)) sdg_name sdt_yes (sd_cb s_sum (sda_cons (sd_sl sd_var (sdo_some sd_var) (sdo_some (sd_op s_add sd_var sd_var))) sda_nil)))))
theorem sd_law_words (b : Bd K mg) (S_Row_len : SdF K (sp_Row_len K w) w_Row_len) (S_law_word : SdF K (sp_law_word K w) w_law_word) (S_law_sums : SdF K (sp_law_sums K w) w_law_sums) : SdF K (sp_law_words K w) w_law_words := by
  rw [w_law_words_eq]
  exact sdf_of (ts := t_law_words K w) (N := N_law_words) rfl (fun vs H Q EX h => h) (by
  unfold t_law_words
  exact (sds_ret (sd_lc (gin_name rfl) (sdi_r2 (sda_cons sd_int (sda_cons (sd_op s_add (sd_cb (s_lenO S_Row_len s_len) (sda_cons sd_var sda_nil)) sd_int) sda_nil))) sdg_name sdt_yes (sd_fn S_law_word (sdc_p (sda_cons (sd_fn S_law_sums (sdc_p (sda_cons sd_var (sda_cons sd_var sda_nil)))) sda_nil))))))
theorem sd_law_joined_right (b : Bd K mg) (S_table_words : SdF K (sp_table_words K w) w_table_words) (S_Row_init : SdF K (sp_Row_init K w) w_Row_init) (S_Row_eq : SdF K (sp_Row_eq K w) w_Row_eq) (S_law_words : SdF K (sp_law_words K w) w_law_words) (S_Row_joined : SdF K (sp_Row_joined K w) w_Row_joined) : SdF K (sp_law_joined_right K w) w_law_joined_right := by
  rw [w_law_joined_right_eq]
  exact sdf_of (ts := t_law_joined_right K w) (N := N_law_joined_right) rfl (fun vs H Q EX h => h) (by
  unfold t_law_joined_right
  exact (sds_seq (sds_par (sda_cons (sd_op s_add sd_var sd_var) (sda_cons (sd_mt S_Row_joined (sd_new S_Row_init ⟨cl_Row b, ty_Row b, fun f hf => nomatch hf⟩ (sdc_p (sda_cons sd_var sda_nil))) (sdc_p (sda_cons (sd_new S_Row_init ⟨cl_Row b, ty_Row b, fun f hf => nomatch hf⟩ (sdc_p (sda_cons sd_var sda_nil))) sda_nil))) sda_nil)))
  (sds_seq (sds_asg (sd_fn S_table_words (sdc_p (sda_cons sd_var sda_nil))) sdg_name)
  (sds_seq (sds_if (sdt_test (sd_op (s_neO (memC (nf_NoneType_Row b) (memC (nf_bool_Row b) (memC (nf_int_Row b) (memC (nf_str_Row b) (memC (nf_list_Row b) (memC (nf_tuple_Row b) memN)))))) (memC (nfO_Row_Row b) memN) S_Row_eq s_ne) (sd_cb s_list (sda_cons sd_var sda_nil)) (sd_fn S_law_words (sdc_p (sda_cons sd_var sda_nil))))) (sds_ret sd_bl) sds_next)
  (sds_kill (sds_seq (sds_for (ks := [0, 1, 2, 3, 5, 6, 7]) (sdi_any (sd_tup (sda_cons (sd_fn S_table_words (sdc_p (sda_cons (sd_new S_Row_init ⟨cl_Row b, ty_Row b, fun f hf => nomatch hf⟩ (sdc_p (sda_cons sd_var sda_nil))) sda_nil))) (sda_cons (sd_fn S_table_words (sdc_p (sda_cons (sd_new S_Row_init ⟨cl_Row b, ty_Row b, fun f hf => nomatch hf⟩ (sdc_p (sda_cons sd_var sda_nil))) sda_nil))) sda_nil)))) sdg_name (sds_if (sdt_test (sd_op (s_neO (memC (nf_NoneType_Row b) (memC (nf_bool_Row b) (memC (nf_int_Row b) (memC (nf_str_Row b) (memC (nf_list_Row b) (memC (nf_tuple_Row b) memN)))))) (memC (nfO_Row_Row b) memN) S_Row_eq s_ne) (sd_lc (gin_tup (gin_cons (gin_name rfl) (gin_cons (gin_name rfl) gin_nil))) (sdi_enumT (sda_cons sd_var sda_nil)) (sdg_tup (sdgs_cons sdg_name (sdgs_cons sdg_name sdgs_nil))) (sdt_and (sdt_test (sd_op (s_neO (memC (nf_NoneType_Row b) (memC (nf_bool_Row b) (memC (nf_int_Row b) (memC (nf_str_Row b) (memC (nf_list_Row b) (memC (nf_tuple_Row b) memN)))))) (memC (nfO_Row_Row b) memN) S_Row_eq s_ne) (sd_op s_ix sd_var sd_var) sd_str)) (sdt_test (sd_op (s_neO (memC (nf_NoneType_Row b) (memC (nf_bool_Row b) (memC (nf_int_Row b) (memC (nf_str_Row b) (memC (nf_list_Row b) (memC (nf_tuple_Row b) memN)))))) (memC (nfO_Row_Row b) memN) S_Row_eq s_ne) sd_var (sd_op s_ix sd_var sd_var)))) sd_var) (sd_lst sda_nil))) (sds_ret sd_bl) sds_next))
  (sds_ret sd_bl)))))))
theorem sd_Row_added (b : Bd K mg) (S_Row_init : SdF K (sp_Row_init K w) w_Row_init) (S_need_row : SdF K (sp_need_row K w) w_need_row) : SdF K (sp_Row_added K w) w_Row_added := by
  rw [w_Row_added_eq]
  exact sdf_of (ts := t_Row_added K w) (N := N_Row_added) rfl (fun vs H Q EX h => h) (by
  unfold t_Row_added
  exact (sds_seq (sds_drop (sd_fn S_need_row (sdc_p (sda_cons sd_var (sda_cons sd_str sda_nil)))))
  (sds_seq (sds_if (sdt_test (sd_op s_ne (sd_fld sd_var) (sd_fld sd_var))) sds_never sds_next)
  (sds_kill (sds_ret (sd_new S_Row_init ⟨cl_Row b, ty_Row b, fun f hf => nomatch hf⟩ (sdc_p (sda_cons (sd_lc (gin_tup (gin_cons (gin_name rfl) (gin_cons (gin_name rfl) gin_nil))) (sdi_zip (sda_cons (sd_fld sd_var) (sda_cons (sd_fld sd_var) sda_nil))) (sdg_tup (sdgs_cons sdg_name (sdgs_cons sdg_name sdgs_nil))) sdt_yes (sd_op s_add sd_var sd_var)) sda_nil))))))))
theorem sd_law_added_right (b : Bd K mg) (S_Row_eq : SdF K (sp_Row_eq K w) w_Row_eq) (S_law_words : SdF K (sp_law_words K w) w_law_words) (S_table_words : SdF K (sp_table_words K w) w_table_words) (S_Row_init : SdF K (sp_Row_init K w) w_Row_init) (S_Row_added : SdF K (sp_Row_added K w) w_Row_added) : SdF K (sp_law_added_right K w) w_law_added_right := by
  rw [w_law_added_right_eq]
  exact sdf_of (ts := t_law_added_right K w) (N := N_law_added_right) rfl (fun vs H Q EX h => h) (by
  unfold t_law_added_right
  exact (sds_seq (sds_par3 (sda_cons (sd_mt S_Row_added (sd_new S_Row_init ⟨cl_Row b, ty_Row b, fun f hf => nomatch hf⟩ (sdc_p (sda_cons sd_var sda_nil))) (sdc_p (sda_cons (sd_new S_Row_init ⟨cl_Row b, ty_Row b, fun f hf => nomatch hf⟩ (sdc_p (sda_cons sd_var sda_nil))) sda_nil))) (sda_cons (sd_fn S_law_words (sdc_p (sda_cons sd_var sda_nil))) (sda_cons (sd_fn S_law_words (sdc_p (sda_cons sd_var sda_nil))) sda_nil))))
  (sds_seq (sds_asg (sd_fn S_table_words (sdc_p (sda_cons sd_var sda_nil))) sdg_name)
  (sds_seq (sds_if (sdt_test (sd_op (s_neO (memC (nf_NoneType_Row b) (memC (nf_bool_Row b) (memC (nf_int_Row b) (memC (nf_str_Row b) (memC (nf_list_Row b) (memC (nf_tuple_Row b) memN)))))) (memC (nfO_Row_Row b) memN) S_Row_eq s_ne) (sd_cb s_list (sda_cons sd_var sda_nil)) (sd_fn S_law_words (sdc_p (sda_cons (sd_lc (gin_tup (gin_cons (gin_name rfl) (gin_cons (gin_name rfl) gin_nil))) (sdi_zip (sda_cons sd_var (sda_cons sd_var sda_nil))) (sdg_tup (sdgs_cons sdg_name (sdgs_cons sdg_name sdgs_nil))) sdt_yes (sd_op s_add sd_var sd_var)) sda_nil))))) (sds_ret sd_bl) sds_next)
  (sds_kill (sds_seq (sds_for (ks := [0, 1, 2, 5, 6, 7, 8, 9, 10]) (sdi_enumT (sda_cons sd_var sda_nil)) (sdg_tup (sdgs_cons sdg_name (sdgs_cons sdg_name sdgs_nil))) (sds_seq (sds_asg (sd_lst (sda_cons (sd_op s_ix sd_var sd_var) (sda_cons (sd_op s_ix sd_var sd_var) sda_nil))) sdg_name)
  (sds_seq (sds_if (sdt_and (sdt_test (sd_op (s_eqO (memC (nf_NoneType_Row b) (memC (nf_bool_Row b) (memC (nf_int_Row b) (memC (nf_str_Row b) (memC (nf_list_Row b) (memC (nf_tuple_Row b) memN)))))) (memC (nfO_Row_Row b) memN) S_Row_eq s_eq) (sd_op s_ix sd_var sd_int) (sd_op s_ix sd_var sd_int))) (sdt_and (sdt_test (sd_op (s_neO (memC (nf_NoneType_Row b) (memC (nf_bool_Row b) (memC (nf_int_Row b) (memC (nf_str_Row b) (memC (nf_list_Row b) (memC (nf_tuple_Row b) memN)))))) (memC (nfO_Row_Row b) memN) S_Row_eq s_ne) (sd_op s_ix sd_var sd_int) sd_str)) (sdt_test (sd_op (s_neO (memC (nf_NoneType_Row b) (memC (nf_bool_Row b) (memC (nf_int_Row b) (memC (nf_str_Row b) (memC (nf_list_Row b) (memC (nf_tuple_Row b) memN)))))) (memC (nfO_Row_Row b) memN) S_Row_eq s_ne) sd_var (sd_op s_ix sd_var sd_int))))) (sds_ret sd_bl) sds_next)
  (sds_kill (sds_if (sdt_and (sdt_test (sd_op s_in sd_str sd_var)) (sdt_test (sd_op (s_neO (memC (nf_NoneType_Row b) (memC (nf_bool_Row b) (memC (nf_int_Row b) (memC (nf_str_Row b) (memC (nf_list_Row b) (memC (nf_tuple_Row b) memN)))))) (memC (nfO_Row_Row b) memN) S_Row_eq s_ne) sd_var (sd_op s_ix sd_var (sd_op s_sub sd_int (sd_bl_ s_idxS sd_var (sda_cons sd_str sda_nil))))))) (sds_ret sd_bl) sds_next)))))
  (sds_ret sd_bl)))))))
theorem sd_Row_plus (b : Bd K mg) (S_Row_init : SdF K (sp_Row_init K w) w_Row_init) (S_need_number : SdF K (sp_need_number K w) w_need_number) : SdF K (sp_Row_plus K w) w_Row_plus := by
  rw [w_Row_plus_eq]
  exact sdf_of (ts := t_Row_plus K w) (N := N_Row_plus) rfl (fun vs H Q EX h => h) (by
  unfold t_Row_plus
  exact (sds_seq (sds_drop (sd_fn S_need_number (sdc_p (sda_cons sd_var (sda_cons sd_str (sda_cons sd_non (sda_cons sd_non sda_nil)))))))
  (sds_ret (sd_new S_Row_init ⟨cl_Row b, ty_Row b, fun f hf => nomatch hf⟩ (sdc_p (sda_cons (sd_lc (gin_name rfl) (sdi_any (sd_fld sd_var)) sdg_name sdt_yes (sd_op s_add sd_var sd_var)) sda_nil))))))
theorem sd_law_drip (b : Bd K mg) (S_Row_len : SdF K (sp_Row_len K w) w_Row_len) (S_Row_eq : SdF K (sp_Row_eq K w) w_Row_eq) : SdF K (sp_law_drip K w) w_law_drip := by
  rw [w_law_drip_eq]
  exact sdf_of (ts := t_law_drip K w) (N := N_law_drip) rfl (fun vs H Q EX h => h) (by
  unfold t_law_drip
  exact (sds_seq (sds_if (sdt_test (sd_op s_gt (sd_op s_ix sd_var sd_int) sd_int)) (sds_seq (sds_asg (sd_op s_md (sd_cb s_int (sda_cons (sd_op s_ix sd_var sd_int) sda_nil)) sd_var) sdg_name)
  (sds_seq (sds_asg (sd_op s_fd (sd_cb s_int (sda_cons (sd_op s_ix sd_var sd_int) sda_nil)) sd_var) (sdg_sub sd_var sd_int))
  (sds_ret sd_var))) sds_next)
  (sds_kill (sds_seq (sds_asg (sd_op s_ix sd_var sd_int) sdg_name)
  (sds_seq (sds_asg (sd_op s_add sd_var sd_int) (sdg_sub sd_var sd_int))
  (sds_seq (sds_asg (sd_op s_add (sd_op s_mulT sd_int sd_var) sd_int) sdg_name)
  (sds_seq (sds_if (sdt_test (sd_op (s_neO (memC (nf_NoneType_Row b) (memC (nf_bool_Row b) (memC (nf_int_Row b) (memC (nf_str_Row b) (memC (nf_list_Row b) (memC (nf_tuple_Row b) memN)))))) (memC (nfO_Row_Row b) memN) S_Row_eq s_ne) (sd_op s_ix sd_var sd_int) (sd_lst sda_nil))) (sds_asg (sd_op s_ix (sd_op s_ix sd_var sd_int) (sd_op s_md (sd_cb s_int (sda_cons sd_var sda_nil)) (sd_cb (s_lenO S_Row_len s_len) (sda_cons (sd_op s_ix sd_var sd_int) sda_nil)))) sdg_name) sds_next)
  (sds_kill (sds_seq (sds_if (sdt_and (sdt_test (sd_op s_lt sd_var (sd_cb (s_lenO S_Row_len s_len) (sda_cons (sd_op s_ix sd_var sd_int) sda_nil)))) (sdt_test (sd_op s_ge (sd_cb s_abs (sda_cons sd_var sda_nil)) (sd_op s_pw sd_int sd_int)))) (sds_seq (sds_asg (sd_op s_add (sd_op s_mulT sd_int (sd_op s_sub (sd_cb s_abs (sda_cons sd_var sda_nil)) (sd_op s_pw sd_int sd_int))) (sd_cb s_int (sda_cons (sd_op s_lt sd_var sd_int) sda_nil))) sdg_name)
  (sds_seq (sds_asg (sd_op s_fd (sd_cb s_int (sda_cons sd_var sda_nil)) sd_var) (sdg_sub sd_var sd_int))
  (sds_ret (sd_op s_md (sd_cb s_int (sda_cons sd_var sda_nil)) sd_var)))) sds_next)
  (sds_kill (sds_seq (sds_asg (sd_op s_md (sd_cb s_int (sda_cons (sd_op s_pw (sd_op s_add (sd_op s_add (sd_op s_md (sd_cb s_int (sda_cons sd_var sda_nil)) sd_int) (sd_op s_mulT sd_int sd_var)) sd_int) sd_int) sda_nil)) sd_int) sdg_name)
  (sds_seq (sds_asg (sd_op s_md (sd_cb s_int (sda_cons (sd_op s_pw (sd_op s_add (sd_op s_add (sd_op s_mulT sd_var (sd_op s_add (sd_op s_mulT sd_int sd_var) sd_int)) (sd_op s_mulT (sd_op s_mulT sd_int sd_var) sd_var)) sd_int) sd_int) sda_nil)) sd_int) sdg_name)
  (sds_ret (sd_op s_md (sd_cb s_int (sda_cons (sd_op s_fd sd_var sd_int) sda_nil)) sd_var))))))))))))))
theorem sd_law_any (b : Bd K mg) (S_law_drip : SdF K (sp_law_drip K w) w_law_drip) (S_Row_len : SdF K (sp_Row_len K w) w_Row_len) : SdF K (sp_law_any K w) w_law_any := by
  rw [w_law_any_eq]
  exact sdf_of (ts := t_law_any K w) (N := N_law_any) rfl (fun vs H Q EX h => h) (by
  unfold t_law_any
  exact (sds_ret (sd_op s_ix sd_var (sd_fn S_law_drip (sdc_p (sda_cons sd_var (sda_cons (sd_cb (s_lenO S_Row_len s_len) (sda_cons sd_var sda_nil)) sda_nil)))))))
theorem sd_Row_times (b : Bd K mg) (S_Row_init : SdF K (sp_Row_init K w) w_Row_init) (S_need_number : SdF K (sp_need_number K w) w_need_number) : SdF K (sp_Row_times K w) w_Row_times := by
  rw [w_Row_times_eq]
  exact sdf_of (ts := t_Row_times K w) (N := N_Row_times) rfl (fun vs H Q EX h => h) (by
  unfold t_Row_times
  exact (sds_seq (sds_drop (sd_fn S_need_number (sdc_p (sda_cons sd_var (sda_cons sd_str (sda_cons sd_non (sda_cons sd_non sda_nil)))))))
  (sds_ret (sd_new S_Row_init ⟨cl_Row b, ty_Row b, fun f hf => nomatch hf⟩ (sdc_p (sda_cons (sd_lc (gin_name rfl) (sdi_any (sd_fld sd_var)) sdg_name sdt_yes (sd_op s_mulT sd_var sd_var)) sda_nil))))))
theorem sd_Row_backwards (b : Bd K mg) (S_Row_init : SdF K (sp_Row_init K w) w_Row_init) : SdF K (sp_Row_backwards K w) w_Row_backwards := by
  rw [w_Row_backwards_eq]
  exact sdf_of (ts := t_Row_backwards K w) (N := N_Row_backwards) rfl (fun vs H Q EX h => h) (by
  unfold t_Row_backwards
  exact (sds_ret (sd_new S_Row_init ⟨cl_Row b, ty_Row b, fun f hf => nomatch hf⟩ (sdc_p (sda_cons (sd_rev (sd_fld sd_var)) sda_nil)))))
theorem sd_law_alone_right (b : Bd K mg) (S_Row_eq : SdF K (sp_Row_eq K w) w_Row_eq) (S_table_words : SdF K (sp_table_words K w) w_table_words) (S_Row_plus : SdF K (sp_Row_plus K w) w_Row_plus) (S_sums : SdF K (sp_sums K w) w_sums) (S_law_sums : SdF K (sp_law_sums K w) w_law_sums) (S_law_any : SdF K (sp_law_any K w) w_law_any) (S_Row_times : SdF K (sp_Row_times K w) w_Row_times) (S_Row_backwards : SdF K (sp_Row_backwards K w) w_Row_backwards) (S_law_drip : SdF K (sp_law_drip K w) w_law_drip) (S_Row_len : SdF K (sp_Row_len K w) w_Row_len) (S_law_words : SdF K (sp_law_words K w) w_law_words) (S_Row_init : SdF K (sp_Row_init K w) w_Row_init) : SdF K (sp_law_alone_right K w) w_law_alone_right := by
  rw [w_law_alone_right_eq]
  exact sdf_of (ts := t_law_alone_right K w) (N := N_law_alone_right) rfl (fun vs H Q EX h => h) (by
  unfold t_law_alone_right
  exact (sds_seq (sds_par3 (sda_cons (sd_new S_Row_init ⟨cl_Row b, ty_Row b, fun f hf => nomatch hf⟩ (sdc_p (sda_cons sd_var sda_nil))) (sda_cons (sd_fn S_law_words (sdc_p (sda_cons sd_var sda_nil))) (sda_cons (sd_cb (s_lenO S_Row_len s_len) (sda_cons sd_var sda_nil)) sda_nil))))
  (sds_seq (sds_asg (sd_lc (gin_name rfl) (sdi_any sd_var) sdg_name sdt_yes (sd_dg (l := [("gains", "loses"), ("loses", "gains")]) (by decide) sd_var sd_var)) sdg_name)
  (sds_seq (sds_asg (sd_tup (sda_cons (sd_op s_add sd_int (sd_fn S_law_any (sdc_p (sda_cons sd_var (sda_cons (sd_lst (sda_cons sd_int (sda_cons sd_int (sda_cons sd_int (sda_cons (sd_op s_pw sd_int sd_int) sda_nil))))) sda_nil))))) (sda_cons (sd_op s_add sd_int (sd_fn S_law_drip (sdc_p (sda_cons sd_var (sda_cons sd_var sda_nil))))) sda_nil))) (sdg_tup (sdgs_cons sdg_name (sdgs_cons sdg_name sdgs_nil))))
  (sds_seq (sds_if (sdt_or (sdt_test (sd_op (s_neO (memC (nf_NoneType_Row b) (memC (nf_bool_Row b) (memC (nf_int_Row b) (memC (nf_str_Row b) (memC (nf_list_Row b) (memC (nf_tuple_Row b) memN)))))) (memC (nfO_Row_Row b) memN) S_Row_eq s_ne) (sd_cb s_list (sda_cons (sd_fn S_table_words (sdc_p (sda_cons (sd_mt S_Row_backwards sd_var (sdc_p sda_nil)) sda_nil))) sda_nil)) sd_var)) (sdt_test (sd_op (s_neO (memC (nf_NoneType_Row b) (memC (nf_bool_Row b) (memC (nf_int_Row b) (memC (nf_str_Row b) (memC (nf_list_Row b) (memC (nf_tuple_Row b) memN)))))) (memC (nfO_Row_Row b) memN) S_Row_eq s_ne) (sd_fn S_sums (sdc_p (sda_cons (sd_mt S_Row_backwards sd_var (sdc_p sda_nil)) (sda_cons sd_var sda_nil)))) (sd_cb s_tuple (sda_cons (sd_rev (sd_fn S_law_sums (sdc_p (sda_cons sd_var (sda_cons sd_var sda_nil))))) sda_nil))))) (sds_ret sd_bl) sds_next)
  (sds_kill (sds_seq (sds_if (sdt_or (sdt_test (sd_op (s_neO (memC (nf_NoneType_Row b) (memC (nf_bool_Row b) (memC (nf_int_Row b) (memC (nf_str_Row b) (memC (nf_list_Row b) (memC (nf_tuple_Row b) memN)))))) (memC (nfO_Row_Row b) memN) S_Row_eq s_ne) (sd_cb s_list (sda_cons (sd_fn S_table_words (sdc_p (sda_cons (sd_mt S_Row_times sd_var (sdc_p (sda_cons sd_var sda_nil))) sda_nil))) sda_nil)) sd_var)) (sdt_or (sdt_test (sd_op (s_neO (memC (nf_NoneType_Row b) (memC (nf_bool_Row b) (memC (nf_int_Row b) (memC (nf_str_Row b) (memC (nf_list_Row b) (memC (nf_tuple_Row b) memN)))))) (memC (nfO_Row_Row b) memN) S_Row_eq s_ne) (sd_cb s_list (sda_cons (sd_fn S_table_words (sdc_p (sda_cons (sd_mt S_Row_times sd_var (sdc_p (sda_cons (sd_un s_neg sd_var) sda_nil))) sda_nil))) sda_nil)) sd_var)) (sdt_test (sd_op (s_neO (memC (nf_NoneType_Row b) (memC (nf_bool_Row b) (memC (nf_int_Row b) (memC (nf_str_Row b) (memC (nf_list_Row b) (memC (nf_tuple_Row b) memN)))))) (memC (nfO_Row_Row b) memN) S_Row_eq s_ne) (sd_fn S_table_words (sdc_p (sda_cons (sd_mt S_Row_times sd_var (sdc_p (sda_cons sd_int sda_nil))) sda_nil))) (sd_op s_mulT (sd_tup (sda_cons sd_str sda_nil)) sd_var))))) (sds_ret sd_bl) sds_next)
  (sds_kill (sds_seq (sds_asg (sd_fn S_law_any (sdc_p (sda_cons sd_var (sda_cons (sd_lst (sda_cons sd_int (sda_cons (sd_un s_neg sd_int) (sda_cons sd_int (sda_cons (sd_un s_neg sd_int) sda_nil))))) sda_nil)))) sdg_name)
  (sds_seq (sds_if (sdt_test (sd_op (s_neO (memC (nf_NoneType_Row b) (memC (nf_bool_Row b) (memC (nf_int_Row b) (memC (nf_str_Row b) (memC (nf_list_Row b) (memC (nf_tuple_Row b) memN)))))) (memC (nfO_Row_Row b) memN) S_Row_eq s_ne) (sd_fn S_sums (sdc_p (sda_cons (sd_mt S_Row_plus sd_var (sdc_p (sda_cons sd_var sda_nil))) (sda_cons sd_var sda_nil)))) (sd_cb s_tuple (sda_cons (sd_lc (gin_name rfl) (sdi_any (sd_fn S_law_sums (sdc_p (sda_cons sd_var (sda_cons sd_var sda_nil))))) sdg_name sdt_yes (sd_op s_add sd_var (sd_op s_mulT sd_var sd_var))) sda_nil)))) (sds_ret sd_bl) sds_next)
  (sds_kill (sds_seq (sds_asg (sd_op s_add sd_int (sd_cb s_maxT (sda_cons (sd_lc (gin_name rfl) (sdi_any sd_var) sdg_name sdt_yes (sd_cb s_abs (sda_cons sd_var sda_nil))) sda_nil))) sdg_name)
  (sds_ret (sd_andT (sd_op (s_eqO (memC (nf_NoneType_Row b) (memC (nf_bool_Row b) (memC (nf_int_Row b) (memC (nf_str_Row b) (memC (nf_list_Row b) (memC (nf_tuple_Row b) memN)))))) (memC (nfO_Row_Row b) memN) S_Row_eq s_eq) (sd_fn S_table_words (sdc_p (sda_cons (sd_mt S_Row_plus sd_var (sdc_p (sda_cons sd_var sda_nil))) sda_nil))) (sd_op s_mulT (sd_tup (sda_cons sd_str sda_nil)) sd_var)) (sd_op (s_eqO (memC (nf_NoneType_Row b) (memC (nf_bool_Row b) (memC (nf_int_Row b) (memC (nf_str_Row b) (memC (nf_list_Row b) (memC (nf_tuple_Row b) memN)))))) (memC (nfO_Row_Row b) memN) S_Row_eq s_eq) (sd_fn S_table_words (sdc_p (sda_cons (sd_mt S_Row_plus sd_var (sdc_p (sda_cons (sd_un s_neg sd_var) sda_nil))) sda_nil))) (sd_op s_mulT (sd_tup (sda_cons sd_str sda_nil)) sd_var))))))))))))))))
theorem sd_law_gains (b : Bd K mg) (S_Row_eq : SdF K (sp_Row_eq K w) w_Row_eq) (S_law_any : SdF K (sp_law_any K w) w_law_any) (S_law_drip : SdF K (sp_law_drip K w) w_law_drip) (S_Row_len : SdF K (sp_Row_len K w) w_Row_len) : SdF K (sp_law_gains K w) w_law_gains := by
  rw [w_law_gains_eq]
  exact sdf_of (ts := t_law_gains K w) (N := N_law_gains) rfl (fun vs H Q EX h => h) (by
  unfold t_law_gains
  exact (sds_seq (sds_asg (sd_fn S_law_drip (sdc_p (sda_cons sd_var (sda_cons sd_int sda_nil)))) sdg_name)
  (sds_seq (sds_if (sdt_test (sd_op s_lt sd_var sd_int)) (sds_ret (sd_dp (sd_lc (gin_name rfl) (sdi_r1 (sda_cons sd_var sda_nil)) sdg_name sdt_yes (sd_op s_sub (sd_fn S_law_drip (sdc_p (sda_cons sd_var (sda_cons sd_int sda_nil)))) sd_int)))) sds_next)
  (sds_kill (sds_seq (sds_if (sdt_test (sd_op (s_eqO (memC (nf_NoneType_Row b) (memC (nf_bool_Row b) (memC (nf_int_Row b) (memC (nf_str_Row b) (memC (nf_list_Row b) (memC (nf_tuple_Row b) memN)))))) (memC (nfO_Row_Row b) memN) S_Row_eq s_eq) sd_var sd_int)) (sds_ret (sd_dp (sd_lc (gin_name rfl) (sdi_r1 (sda_cons sd_var sda_nil)) sdg_name sdt_yes (sd_fn S_law_any (sdc_p (sda_cons sd_var (sda_cons (sd_lst (sda_cons sd_int (sda_cons sd_int (sda_cons sd_int (sda_cons sd_int (sda_cons (sd_un s_neg sd_int) sda_nil)))))) sda_nil))))))) sds_next)
  (sds_kill (sds_seq (sds_if (sdt_test (sd_op (s_eqO (memC (nf_NoneType_Row b) (memC (nf_bool_Row b) (memC (nf_int_Row b) (memC (nf_str_Row b) (memC (nf_list_Row b) (memC (nf_tuple_Row b) memN)))))) (memC (nfO_Row_Row b) memN) S_Row_eq s_eq) sd_var sd_int)) (sds_ret (sd_dp (sd_lc (gin_name rfl) (sdi_r1 (sda_cons sd_var sda_nil)) sdg_name sdt_yes (sd_fn S_law_any (sdc_p (sda_cons sd_var (sda_cons (sd_lst (sda_cons (sd_op s_pw sd_int sd_int) (sda_cons (sd_op s_sub sd_int (sd_op s_pw sd_int sd_int)) (sda_cons (sd_op s_pw sd_int sd_int) (sda_cons sd_int (sda_cons (sd_un s_neg sd_int) (sda_cons sd_int sda_nil))))))) sda_nil))))))) sds_next)
  (sds_kill (sds_seq (sds_asg (sd_lc (gin_name rfl) (sdi_r1 (sda_cons (sd_op s_add sd_int (sd_fn S_law_drip (sdc_p (sda_cons sd_var (sda_cons sd_int sda_nil))))) sda_nil)) sdg_name sdt_yes (sd_op s_sub (sd_fn S_law_drip (sdc_p (sda_cons sd_var (sda_cons sd_int sda_nil)))) sd_int)) sdg_name)
  (sds_seq (sds_if (sdt_test (sd_op (s_eqO (memC (nf_NoneType_Row b) (memC (nf_bool_Row b) (memC (nf_int_Row b) (memC (nf_str_Row b) (memC (nf_list_Row b) (memC (nf_tuple_Row b) memN)))))) (memC (nfO_Row_Row b) memN) S_Row_eq s_eq) sd_var sd_int)) (sds_asg (sd_op s_sub (sd_op s_ix sd_var sd_int) (sd_cb s_sum (sda_cons sd_var sda_nil))) (sdg_sub sd_var sd_int)) sds_next)
  (sds_kill (sds_seq (sds_asg (sd_lc (gin_name rfl) (sdi_r1 (sda_cons sd_var sda_nil)) sdg_name sdt_yes (sd_op s_ix sd_var (sd_op s_md (sd_cb s_int (sda_cons sd_var sda_nil)) (sd_cb (s_lenO S_Row_len s_len) (sda_cons sd_var sda_nil))))) sdg_name)
  (sds_seq (sds_if (sdt_test (sd_op (s_eqO (memC (nf_NoneType_Row b) (memC (nf_bool_Row b) (memC (nf_int_Row b) (memC (nf_str_Row b) (memC (nf_list_Row b) (memC (nf_tuple_Row b) memN)))))) (memC (nfO_Row_Row b) memN) S_Row_eq s_eq) sd_var sd_int)) (sds_seq (sds_asg (sd_fn S_law_drip (sdc_p (sda_cons sd_var (sda_cons sd_var sda_nil)))) sdg_name)
  (sds_asg (sd_op s_add (sd_op s_ix sd_var sd_var) (sd_fn S_law_any (sdc_p (sda_cons sd_var (sda_cons (sd_lst (sda_cons sd_int (sda_cons (sd_un s_neg sd_int) (sda_cons sd_int sda_nil)))) sda_nil))))) (sdg_sub sd_var sd_var))) sds_next)
  (sds_kill (sds_ret (sd_dp (sd_fz sd_var)))))))))))))))))
theorem sd_law_known (b : Bd K mg) (S_law_any : SdF K (sp_law_any K w) w_law_any) : SdF K (sp_law_known K w) w_law_known := by
  rw [w_law_known_eq]
  exact sdf_of (ts := t_law_known K w) (N := N_law_known) rfl (fun vs H Q EX h => h) (by
  unfold t_law_known
  exact (sds_ret (sd_fn S_law_any (sdc_p (sda_cons sd_var (sda_cons (sd_lst (sda_cons (sd_lst (sda_cons (sd_un s_neg sd_int) (sda_cons sd_int (sda_cons (sd_un s_neg sd_int) (sda_cons (sd_un s_neg sd_int) (sda_cons sd_int (sda_cons (sd_un s_neg sd_int) sda_nil))))))) (sda_cons (sd_lst (sda_cons sd_int (sda_cons sd_int (sda_cons (sd_un s_neg sd_int) (sda_cons sd_int (sda_cons sd_int (sda_cons sd_int (sda_cons (sd_un s_neg sd_int) (sda_cons sd_int (sda_cons sd_int (sda_cons (sd_un s_neg sd_int) (sda_cons sd_int (sda_cons sd_int (sda_cons sd_int (sda_cons (sd_un s_neg sd_int) (sda_cons sd_int (sda_cons sd_int sda_nil))))))))))))))))) (sda_cons (sd_lst (sda_cons (sd_un s_neg sd_int) (sda_cons sd_int (sda_cons (sd_un s_neg sd_int) (sda_cons (sd_un s_neg sd_int) (sda_cons sd_int (sda_cons sd_int (sda_cons (sd_un s_neg sd_int) sda_nil)))))))) (sda_cons (sd_lst (sda_cons sd_int (sda_cons (sd_un s_neg sd_int) (sda_cons sd_int (sda_cons (sd_un s_neg sd_int) (sda_cons sd_int sda_nil)))))) (sda_cons (sd_lst (sda_cons sd_int (sda_cons sd_int (sda_cons sd_int sda_nil)))) (sda_cons (sd_lst (sda_cons (sd_un s_neg sd_int) (sda_cons sd_int (sda_cons (sd_un s_neg sd_int) sda_nil)))) (sda_cons (sd_lst (sda_cons sd_int sda_nil)) sda_nil)))))))) sda_nil))))))
theorem sd_law_tap (b : Bd K mg)  : SdF K (sp_law_tap K w) w_law_tap := by
  rw [w_law_tap_eq]
  exact sdf_of (ts := t_law_tap K w) (N := N_law_tap) rfl (fun vs H Q EX h => h) (by
  unfold t_law_tap
  exact (sds_ret (sd_lst (sda_cons (sd_lc (gin_name rfl) (sdi_any (sd_sl sd_var sdo_none (sdo_some sd_int))) sdg_name sdt_yes (sd_cb s_int (sda_cons sd_var sda_nil))) (sda_cons sd_int (sda_cons sd_int sda_nil))))))
theorem sd_law (b : Bd K mg) (S_law_twice_right : SdF K (sp_law_twice_right K w) w_law_twice_right) (S_law_joined_right : SdF K (sp_law_joined_right K w) w_law_joined_right) (S_law_added_right : SdF K (sp_law_added_right K w) w_law_added_right) (S_law_alone_right : SdF K (sp_law_alone_right K w) w_law_alone_right) (S_Row_eq : SdF K (sp_Row_eq K w) w_Row_eq) (S_law_drip : SdF K (sp_law_drip K w) w_law_drip) (S_law_any : SdF K (sp_law_any K w) w_law_any) (S_law_gains : SdF K (sp_law_gains K w) w_law_gains) (S_law_known : SdF K (sp_law_known K w) w_law_known) (S_law_tap : SdF K (sp_law_tap K w) w_law_tap) : SdF K (sp_law K w) w_law := by
  rw [w_law_eq]
  exact sdf_of (ts := t_law K w) (N := N_law) rfl (fun vs H Q EX h => h) (by
  unfold t_law
  exact (sds_seq (sds_asg (sd_fn S_law_tap (sdc_p (sda_cons sd_var sda_nil))) sdg_name)
  (sds_seq (sds_for (ks := [0, 2, 3, 4, 5]) (sdi_r1 (sda_cons sd_int sda_nil)) sdg_name (sds_seq (sds_asg (sd_fn S_law_gains (sdc_p (sda_cons sd_var (sda_cons (sd_fn S_law_any (sdc_p (sda_cons sd_var (sda_cons (sd_lst (sda_cons sd_int (sda_cons sd_int (sda_cons sd_int (sda_cons sd_int (sda_cons sd_int (sda_cons sd_int (sda_cons sd_int (sda_cons sd_int (sda_cons sd_int (sda_cons sd_int sda_nil))))))))))) sda_nil)))) sda_nil)))) sdg_name)
  (sds_seq (sds_if (sdt_test (sd_op (s_eqO (memC (nf_NoneType_Row b) (memC (nf_bool_Row b) (memC (nf_int_Row b) (memC (nf_str_Row b) (memC (nf_list_Row b) (memC (nf_tuple_Row b) memN)))))) (memC (nfO_Row_Row b) memN) S_Row_eq s_eq) (sd_fn S_law_drip (sdc_p (sda_cons sd_var (sda_cons sd_int sda_nil)))) sd_int)) (sds_asg (sd_fn S_law_known (sdc_p (sda_cons sd_var sda_nil))) sdg_name) sds_next)
  (sds_kill (sds_seq (sds_asg (sd_fn S_law_gains (sdc_p (sda_cons sd_var (sda_cons (sd_cb s_len (sda_cons sd_var sda_nil)) sda_nil)))) sdg_name)
  (sds_seq (sds_if (sdt_test (sd_op (s_eqO (memC (nf_NoneType_Row b) (memC (nf_bool_Row b) (memC (nf_int_Row b) (memC (nf_str_Row b) (memC (nf_list_Row b) (memC (nf_tuple_Row b) memN)))))) (memC (nfO_Row_Row b) memN) S_Row_eq s_eq) (sd_fn S_law_drip (sdc_p (sda_cons sd_var (sda_cons sd_int sda_nil)))) sd_int)) (sds_asg (sd_if (sdt_test (sd_op (s_eqO (memC (nf_NoneType_Row b) (memC (nf_bool_Row b) (memC (nf_int_Row b) (memC (nf_str_Row b) (memC (nf_list_Row b) (memC (nf_tuple_Row b) memN)))))) (memC (nfO_Row_Row b) memN) S_Row_eq s_eq) (sd_fn S_law_drip (sdc_p (sda_cons sd_var (sda_cons sd_int sda_nil)))) sd_int)) (sd_op s_mulT (sd_lst (sda_cons sd_int sda_nil)) (sd_cb s_len (sda_cons sd_var sda_nil))) (sd_lc (gin_name rfl) (sdi_any sd_var) sdg_name sdt_yes (sd_op s_mulT (sd_fn S_law_any (sdc_p (sda_cons sd_var (sda_cons (sd_lst (sda_cons sd_int (sda_cons (sd_un s_neg sd_int) (sda_cons sd_int sda_nil)))) sda_nil)))) sd_var))) sdg_name) sds_next)
  (sds_kill (sds_seq (sds_if (sdt_or (sdt_not (sdt_tru (sd_fn S_law_alone_right (sdc_p (sda_cons sd_var (sda_cons sd_var sda_nil)))))) (sdt_not (sdt_tru (sd_fn S_law_added_right (sdc_p (sda_cons sd_var (sda_cons sd_var sda_nil))))))) (sds_ret (sd_dp sd_bl)) sds_next)
  (sds_kill (sds_if (sdt_or (sdt_not (sdt_tru (sd_fn S_law_joined_right (sdc_p (sda_cons sd_var (sda_cons sd_var sda_nil)))))) (sdt_not (sdt_tru (sd_fn S_law_twice_right (sdc_p (sda_cons sd_var sda_nil)))))) (sds_ret (sd_dp sd_bl)) sds_next))))))))))
  (sds_ret (sd_dp sd_bl)))))
theorem sd_all (b : Bd K mg) : SdF K (sp_law K w) w_law := by
  have S_Row_eq : SdF K (sp_Row_eq K w) w_Row_eq := sd_Row_eq b 
  have S_word_of : SdF K (sp_word_of K w) w_word_of := sd_word_of b 
  have S_sums_in : SdF K (sp_sums_in K w) w_sums_in := sd_sums_in b 
  have S_need_row : SdF K (sp_need_row K w) w_need_row := sd_need_row b 
  have S_table_words : SdF K (sp_table_words K w) w_table_words := sd_table_words b S_word_of S_sums_in S_need_row
  have S_is_integer : SdF K (sp_is_integer K w) w_is_integer := sd_is_integer b 
  have S_is_within : SdF K (sp_is_within K w) w_is_within := sd_is_within b S_is_integer
  have S_need_number : SdF K (sp_need_number K w) w_need_number := sd_need_number b S_is_within
  have S_need_length : SdF K (sp_need_length K w) w_need_length := sd_need_length b S_need_number S_need_row
  have S_sort_of : SdF K (sp_sort_of K w) w_sort_of := sd_sort_of b S_word_of S_sums_in S_need_length
  have S_sums : SdF K (sp_sums K w) w_sums := sd_sums b S_sums_in S_need_length
  have S_heights_of : SdF K (sp_heights_of K w) w_heights_of := sd_heights_of b 
  have S_are_integers : SdF K (sp_are_integers K w) w_are_integers := sd_are_integers b S_is_integer
  have S_Row_init : SdF K (sp_Row_init K w) w_Row_init := sd_Row_init b S_heights_of S_are_integers
  have S_Row_joined : SdF K (sp_Row_joined K w) w_Row_joined := sd_Row_joined b S_Row_init S_need_row
  have S_Row_len : SdF K (sp_Row_len K w) w_Row_len := sd_Row_len b 
  have S_law_twice_right : SdF K (sp_law_twice_right K w) w_law_twice_right := sd_law_twice_right b S_Row_eq S_table_words S_sort_of S_sums S_Row_joined S_Row_len S_Row_init
  have S_law_word : SdF K (sp_law_word K w) w_law_word := sd_law_word b S_Row_eq S_Row_len
  have S_law_sums : SdF K (sp_law_sums K w) w_law_sums := sd_law_sums b S_Row_len
  have S_law_words : SdF K (sp_law_words K w) w_law_words := sd_law_words b S_Row_len S_law_word S_law_sums
  have S_law_joined_right : SdF K (sp_law_joined_right K w) w_law_joined_right := sd_law_joined_right b S_table_words S_Row_init S_Row_eq S_law_words S_Row_joined
  have S_Row_added : SdF K (sp_Row_added K w) w_Row_added := sd_Row_added b S_Row_init S_need_row
  have S_law_added_right : SdF K (sp_law_added_right K w) w_law_added_right := sd_law_added_right b S_Row_eq S_law_words S_table_words S_Row_init S_Row_added
  have S_Row_plus : SdF K (sp_Row_plus K w) w_Row_plus := sd_Row_plus b S_Row_init S_need_number
  have S_law_drip : SdF K (sp_law_drip K w) w_law_drip := sd_law_drip b S_Row_len S_Row_eq
  have S_law_any : SdF K (sp_law_any K w) w_law_any := sd_law_any b S_law_drip S_Row_len
  have S_Row_times : SdF K (sp_Row_times K w) w_Row_times := sd_Row_times b S_Row_init S_need_number
  have S_Row_backwards : SdF K (sp_Row_backwards K w) w_Row_backwards := sd_Row_backwards b S_Row_init
  have S_law_alone_right : SdF K (sp_law_alone_right K w) w_law_alone_right := sd_law_alone_right b S_Row_eq S_table_words S_Row_plus S_sums S_law_sums S_law_any S_Row_times S_Row_backwards S_law_drip S_Row_len S_law_words S_Row_init
  have S_law_gains : SdF K (sp_law_gains K w) w_law_gains := sd_law_gains b S_Row_eq S_law_any S_law_drip S_Row_len
  have S_law_known : SdF K (sp_law_known K w) w_law_known := sd_law_known b S_law_any
  have S_law_tap : SdF K (sp_law_tap K w) w_law_tap := sd_law_tap b 
  exact sd_law b S_law_twice_right S_law_joined_right S_law_added_right S_law_alone_right S_Row_eq S_law_drip S_law_any S_law_gains S_law_known S_law_tap
end
end K10

set_option Elab.async false
set_option linter.all false
set_option maxRecDepth 100000
set_option maxHeartbeats 4000000
namespace K10
open PySem PySem.Spec PyProof.Rows L2 Rl RZ RT Px Ty
@[irreducible] noncomputable def m_law_tap (script_0 : List Int) : Res ((List Int) × Int × Int) :=
  (lcM (fun (x_1 : Int) => x_1) (cutD script_0 none (some 60))).bind fun l_3 =>
  (Res.ok (l_3, 0, 0))
theorem T_law_tap (script_0 : List Int) (M : Mem) (k : D → Mem → Prop) (E : XP) (h : (m_law_tap script_0).wp fun r => ∀ p, M p = none → k (.ref p) (mu M p ((cL3 (eL D.int) D.int D.int) r))) : w_law_tap [D.scr script_0] M k E := by
  rw [w_law_tap_eq]
  obtain ⟨m, key, e⟩ : ∃ m, BJ (fun _ : Unit => M) [some (D.scr script_0), none] ()
    (wRet (wLst true (waCons (wLc false (wiAny (wSl false (wVar 0) woNone (woSome (wC (.int 60))))) (wgName 1) wYes (wCB (b1 dInt) (waCons (wVar 1) waNil)) [1]) (waCons (wC (.int 0)) (waCons (wC (.int 0)) waNil))))) (fun P r => ∀ p, M p = none → P.rt (.ref p) (mu M p ((cL3 (eL D.int) D.int D.int) r))) m ∧ m = m_law_tap script_0 := ⟨_,
    (bj_one (bj_retN' (fin := fun a _ => a) (nj_lst (c := (cL3 (eL D.int) D.int D.int)) (aj_cons (ej_lcM (eo := D.int) (ρt := fun (x_1 : Int) => [some (D.scr script_0), some (D.int x_1)]) (ij_L (ej_sl (e := (eL D.int)) sl_scr (ej_var (e := D.scr) script_0 rfl) (fun _ _ => oj_none) (fun _ _ _ _ => (oj_some ej_int)))) (fun _ _ _ _ h => h) (fun x_1 _ => (ej_cb1 o_int (ej_var (e := D.int) x_1 rfl)))) (fun _ _ => (aj_cons ej_int (fun _ _ => (aj_one ej_int))))) (fun _ => Nat.le_of_ble_eq_true rfl) (fun _ => rfl)) (fun P a s' h => (fun P h => h) P h))), (by unfold m_law_tap; rfl)⟩
  exact key { nx := fun _ M' => k .non M', rt := k } E (by rw [e]; exact h)
@[irreducible] noncomputable def m_law_drip (t_base : (List Int) × Int × Int) (many_0 : Int) : Res (Int × ((List Int) × Int × Int)) :=
  (if (decide (t_base.2.2 > 0)) then
  (mdR t_base.2.2 many_0).bind fun t_3 =>
  let digit_2 := t_3
  (fdR t_base.2.2 many_0).bind fun t_5 =>
  let s_6 := (t_base.1, t_base.2.1, t_5)
  (Res.ok (digit_2, s_6))
  else
  let at_7 := t_base.2.1
  let s_9 := (t_base.1, (at_7 + 1), t_base.2.2)
  (mulR 63079 at_7).bind fun t_11 =>
  let cell_10 := (t_11 + 8179)
  Res.bind (if (!(decide (s_9.1 = []))) then
  (mdR at_7 (s_9.1.length : Int)).bind fun t_18 =>
  (ixR s_9.1 t_18).bind fun t_19 =>
  let cell_17 := t_19
  (Res.ok (cell_17, s_9))
  else
  (Res.ok (cell_10, s_9))) fun q_52 =>
  let v_21 := q_52.1
  let s_22 := q_52.2
  Res.bind (if (decide (at_7 < (s_22.1.length : Int))) then (pwR 10 18).bind fun t_27 =>
  (Res.ok (decide ((v_21.natAbs : Int) ≥ t_27))) else .ok false) fun b_26 =>
  (if b_26 then
  (pwR 10 18).bind fun t_30 =>
  (mulR 2 ((v_21.natAbs : Int) - t_30)).bind fun t_31 =>
  let great_29 := (t_31 + (if (decide (v_21 < 0)) then 1 else 0))
  (fdR great_29 many_0).bind fun t_33 =>
  let s_34 := (s_22.1, s_22.2.1, t_33)
  (mdR great_29 many_0).bind fun t_35 =>
  (Res.ok (t_35, s_34))
  else
  (mdR v_21 2147483563).bind fun t_37 =>
  (mulR 74561 at_7).bind fun t_38 =>
  (pwR ((t_37 + t_38) + 8179) 5).bind fun t_39 =>
  (mdR t_39 2147483629).bind fun t_40 =>
  let mixed_36 := t_40
  (mulR 2 at_7).bind fun t_43 =>
  (mulR mixed_36 (t_43 + 2459)).bind fun t_44 =>
  (mulR 63079 at_7).bind fun t_45 =>
  (mulR t_45 at_7).bind fun t_46 =>
  (pwR ((t_44 + t_46) + 93703) 3).bind fun t_47 =>
  (mdR t_47 2147483549).bind fun t_48 =>
  let mixed_42 := t_48
  (fdR mixed_42 64).bind fun t_50 =>
  (mdR t_50 many_0).bind fun t_51 =>
  (Res.ok (t_51, s_22))))
theorem T_law_drip (t_base : (List Int) × Int × Int) (many_0 : Int) (M : Mem) (p_base : Addr) (k : D → Mem → Prop) (E : XP) (hp_base : M p_base = none) (h : (m_law_drip t_base many_0).wp fun r => k (D.int r.1) (mu M p_base ((cL3 (eL D.int) D.int D.int) r.2))) : w_law_drip [D.ref p_base, D.int many_0] (mu M p_base ((cL3 (eL D.int) D.int D.int) t_base)) k E := by
  rw [w_law_drip_eq]
  obtain ⟨m, key, e⟩ : ∃ m, BJ (fun t => mu M p_base ((cL3 (eL D.int) D.int D.int) t)) [some (D.ref p_base), some (D.int many_0), none, none, none, none, none] t_base
    (wSeq (wIfS (wTest (wOp dGt (wOp dIx (wVar 0) (wC (.int 2))) (wC (.int 0)))) (wSeq (wAsg (wOp dMd (wCB (b1 dInt) (waCons (wOp dIx (wVar 0) (wC (.int 2))) waNil)) (wVar 1)) (wgName 2))
  (wSeq (wAsg (wOp dFd (wCB (b1 dInt) (waCons (wOp dIx (wVar 0) (wC (.int 2))) waNil)) (wVar 1)) (wgSub (wVar 0) (wC (.int 2))))
  (wRet (wVar 2)))) wNext)
  (wKill [2, 3, 4, 5, 6] (wSeq (wAsg (wOp dIx (wVar 0) (wC (.int 1))) (wgName 3))
  (wSeq (wAsg (wOp (dAdd false) (wVar 3) (wC (.int 1))) (wgSub (wVar 0) (wC (.int 1))))
  (wSeq (wAsg (wOp (dAdd false) (wOp (dMulT false) (wC (.int 63079)) (wVar 3)) (wC (.int 8179))) (wgName 4))
  (wSeq (wIfS (wTest (wOp (dNeO "Row" ["Row"] w_Row_eq dNe) (wOp dIx (wVar 0) (wC (.int 0))) (wLst false waNil))) (wAsg (wOp dIx (wOp dIx (wVar 0) (wC (.int 0))) (wOp dMd (wCB (b1 dInt) (waCons (wVar 3) waNil)) (wCB (b1 (dLenO "Row" w_Row_len dLen)) (waCons (wOp dIx (wVar 0) (wC (.int 0))) waNil)))) (wgName 4)) wNext)
  (wKill [2, 5, 6] (wSeq (wIfS (wAnd (wTest (wOp dLt (wVar 3) (wCB (b1 (dLenO "Row" w_Row_len dLen)) (waCons (wOp dIx (wVar 0) (wC (.int 0))) waNil)))) (wTest (wOp dGe (wCB (b1 dAbs) (waCons (wVar 4) waNil)) (wOp dPw (wC (.int 10)) (wC (.int 18)))))) (wSeq (wAsg (wOp (dAdd false) (wOp (dMulT false) (wC (.int 2)) (wOp dSub (wCB (b1 dAbs) (waCons (wVar 4) waNil)) (wOp dPw (wC (.int 10)) (wC (.int 18))))) (wCB (b1 dInt) (waCons (wOp dLt (wVar 4) (wC (.int 0))) waNil))) (wgName 5))
  (wSeq (wAsg (wOp dFd (wCB (b1 dInt) (waCons (wVar 5) waNil)) (wVar 1)) (wgSub (wVar 0) (wC (.int 2))))
  (wRet (wOp dMd (wCB (b1 dInt) (waCons (wVar 5) waNil)) (wVar 1))))) wNext)
  (wKill [2, 5, 6] (wSeq (wAsg (wOp dMd (wCB (b1 dInt) (waCons (wOp dPw (wOp (dAdd false) (wOp (dAdd false) (wOp dMd (wCB (b1 dInt) (waCons (wVar 4) waNil)) (wC (.int 2147483563))) (wOp (dMulT false) (wC (.int 74561)) (wVar 3))) (wC (.int 8179))) (wC (.int 5))) waNil)) (wC (.int 2147483629))) (wgName 6))
  (wSeq (wAsg (wOp dMd (wCB (b1 dInt) (waCons (wOp dPw (wOp (dAdd false) (wOp (dAdd false) (wOp (dMulT false) (wVar 6) (wOp (dAdd false) (wOp (dMulT false) (wC (.int 2)) (wVar 3)) (wC (.int 2459)))) (wOp (dMulT false) (wOp (dMulT false) (wC (.int 63079)) (wVar 3)) (wVar 3))) (wC (.int 93703))) (wC (.int 3))) waNil)) (wC (.int 2147483549))) (wgName 6))
  (wRet (wOp dMd (wCB (b1 dInt) (waCons (wOp dFd (wVar 6) (wC (.int 64))) waNil)) (wVar 1)))))))))))))) (Φd (fun r : Int × ((List Int) × Int × Int) => D.int r.1) fun r => mu M p_base ((cL3 (eL D.int) D.int D.int) r.2)) m ∧ m = m_law_drip t_base many_0 := ⟨_,
    (bj_if (tj_test (ej_op o_gt (ej_ixkC (e := D.int) (ca_base hp_base) rfl (fun t => t.2.2) (fun t N k h => cell_mu (ix_of rfl h))) (fun _ _ => ej_int))) (fun s_1 => (bj_assoc (bj_asg (e := D.int) (ej_op o_md (ej_cb1 o_int (ej_ixkC (e := D.int) (ca_base hp_base) rfl (fun t => t.2.2) (fun t N k h => cell_mu (ix_of rfl h)))) (fun _ _ => (ej_var (e := D.int) many_0 rfl))) (fun digit_2 s_4 => (bj_rho (ρ2 := [some (D.ref p_base), some (D.int many_0), some (D.int digit_2), none, none, none, none]) rfl (bj_assoc (bj_setk (e := D.int) (fun t a => (t.1, t.2.1, a)) (ca_base hp_base) rfl (fun t a N k h => set_mu rfl h) (ej_op o_fd (ej_cb1 o_int (ej_ixkC (e := D.int) (ca_base hp_base) rfl (fun t => t.2.2) (fun t N k h => cell_mu (ix_of rfl h)))) (fun _ _ => (ej_var (e := D.int) many_0 rfl))) (fun _ => (bj_rho (ρ2 := [some (D.ref p_base), some (D.int many_0), some (D.int digit_2), none, none, none, none]) rfl (bj_ret (fin := fun a s' => (a, s')) (ej_var (e := D.int) digit_2 rfl) (fun P a s' h => (fun P h => h.1) P h))))))))))) (fun s_1 => (bj_skip (bj_kill (bj_rho (ρ2 := [some (D.ref p_base), some (D.int many_0), none, none, none, none, none]) rfl (bj_rho (ρ2 := [some (D.ref p_base), some (D.int many_0), none, none, none, none, none]) rfl (bj_asg (e := D.int) (ej_ixkC (e := D.int) (ca_base hp_base) rfl (fun t => t.2.1) (fun t N k h => cell_mu (ix_of rfl h))) (fun at_7 s_8 => (bj_rho (ρ2 := [some (D.ref p_base), some (D.int many_0), none, some (D.int at_7), none, none, none]) rfl (bj_setk (e := D.int) (fun t a => (t.1, a, t.2.2)) (ca_base hp_base) rfl (fun t a N k h => set_mu rfl h) (ej_op o_add (ej_var (e := D.int) at_7 rfl) (fun _ _ => ej_int)) (fun _ => (bj_rho (ρ2 := [some (D.ref p_base), some (D.int many_0), none, some (D.int at_7), none, none, none]) rfl (bj_asg (e := D.int) (ej_op o_add (ej_op o_mul ej_int (fun _ _ => (ej_var (e := D.int) at_7 rfl))) (fun _ _ => ej_int)) (fun cell_10 s_12 => (bj_rho (ρ2 := [some (D.ref p_base), some (D.int many_0), none, some (D.int at_7), some (D.int cell_10), none, none]) rfl (bj_ifJ (σ := Int) (ρj := fun v_21 => [some (D.ref p_base), some (D.int many_0), none, some (D.int at_7), some (D.int v_21), none, none]) (tj_test (ej_op (o_neQ (e1 := (eL D.int)) (fun _ _ _ _ h => h) (o_ne (e := (eL D.int)) (peq_of (pd_L pd_int) (by decide) (fun _ _ _ _ h => h)))) (ej_ixkC (e := (eL D.int)) (ca_base hp_base) rfl (fun t => t.1) (fun t N k h => cell_mu (ix_of rfl h))) (fun _ _ => (ej_lstL (e := D.int) lj_nil (by decide))))) (fun _ => (bj_one (bj_asg (e := D.int) (ej_op (o_ix (e := D.int)) (ej_ixkC (e := (eL D.int)) (ca_base hp_base) rfl (fun t => t.1) (fun t N k h => cell_mu (ix_of rfl h))) (fun _ _ => (ej_op o_md (ej_cb1 o_int (ej_var (e := D.int) at_7 rfl)) (fun _ _ => (ej_cb1 (o_lenQ (e1 := (eL D.int)) (fun _ _ _ h => h) (o_len (e := D.int))) (ej_ixkC (e := (eL D.int)) (ca_base hp_base) rfl (fun t => t.1) (fun t N k h => cell_mu (ix_of rfl h)))))))) (fun cell_17 s_20 => (bj_jn (v := cell_17) rfl))))) (fun _ => (bj_jn (v := cell_10) rfl)) (fun v_21 _ => (bj_rho (ρ2 := [some (D.ref p_base), some (D.int many_0), none, some (D.int at_7), some (D.int v_21), none, none]) rfl (bj_if (tj_andS (fun s_23 k_24 => (pwR 10 18).bind fun t_25 =>
  k_24 (decide ((v_21.natAbs : Int) ≥ t_25))) (tj_test (ej_op o_lt (ej_var (e := D.int) at_7 rfl) (fun _ _ => (ej_cb1 (o_lenQ (e1 := (eL D.int)) (fun _ _ _ h => h) (o_len (e := D.int))) (ej_ixkC (e := (eL D.int)) (ca_base hp_base) rfl (fun t => t.1) (fun t N k h => cell_mu (ix_of rfl h))))))) (fun _ => (tj_test (ej_op o_ge (ej_cb1 o_abs (ej_var (e := D.int) v_21 rfl)) (fun _ _ => (ej_op o_pw ej_int (fun _ _ => ej_int)))))) (fun _ _ => rfl)) (fun s_28 => (bj_assoc (bj_asg (e := D.int) (ej_op o_add (ej_op o_mul ej_int (fun _ _ => (ej_op o_sub (ej_cb1 o_abs (ej_var (e := D.int) v_21 rfl)) (fun _ _ => (ej_op o_pw ej_int (fun _ _ => ej_int)))))) (fun _ _ => (ej_cb1 o_intB (ej_op o_lt (ej_var (e := D.int) v_21 rfl) (fun _ _ => ej_int))))) (fun great_29 s_32 => (bj_rho (ρ2 := [some (D.ref p_base), some (D.int many_0), none, some (D.int at_7), some (D.int v_21), some (D.int great_29), none]) rfl (bj_assoc (bj_setk (e := D.int) (fun t a => (t.1, t.2.1, a)) (ca_base hp_base) rfl (fun t a N k h => set_mu rfl h) (ej_op o_fd (ej_cb1 o_int (ej_var (e := D.int) great_29 rfl)) (fun _ _ => (ej_var (e := D.int) many_0 rfl))) (fun _ => (bj_rho (ρ2 := [some (D.ref p_base), some (D.int many_0), none, some (D.int at_7), some (D.int v_21), some (D.int great_29), none]) rfl (bj_ret (fin := fun a s' => (a, s')) (ej_op o_md (ej_cb1 o_int (ej_var (e := D.int) great_29 rfl)) (fun _ _ => (ej_var (e := D.int) many_0 rfl))) (fun P a s' h => (fun P h => h.1) P h))))))))))) (fun s_28 => (bj_skip (bj_kill (bj_rho (ρ2 := [some (D.ref p_base), some (D.int many_0), none, some (D.int at_7), some (D.int v_21), none, none]) rfl (bj_rho (ρ2 := [some (D.ref p_base), some (D.int many_0), none, some (D.int at_7), some (D.int v_21), none, none]) rfl (bj_asg (e := D.int) (ej_op o_md (ej_cb1 o_int (ej_op o_pw (ej_op o_add (ej_op o_add (ej_op o_md (ej_cb1 o_int (ej_var (e := D.int) v_21 rfl)) (fun _ _ => ej_int)) (fun _ _ => (ej_op o_mul ej_int (fun _ _ => (ej_var (e := D.int) at_7 rfl))))) (fun _ _ => ej_int)) (fun _ _ => ej_int))) (fun _ _ => ej_int)) (fun mixed_36 s_41 => (bj_rho (ρ2 := [some (D.ref p_base), some (D.int many_0), none, some (D.int at_7), some (D.int v_21), none, some (D.int mixed_36)]) rfl (bj_asg (e := D.int) (ej_op o_md (ej_cb1 o_int (ej_op o_pw (ej_op o_add (ej_op o_add (ej_op o_mul (ej_var (e := D.int) mixed_36 rfl) (fun _ _ => (ej_op o_add (ej_op o_mul ej_int (fun _ _ => (ej_var (e := D.int) at_7 rfl))) (fun _ _ => ej_int)))) (fun _ _ => (ej_op o_mul (ej_op o_mul ej_int (fun _ _ => (ej_var (e := D.int) at_7 rfl))) (fun _ _ => (ej_var (e := D.int) at_7 rfl))))) (fun _ _ => ej_int)) (fun _ _ => ej_int))) (fun _ _ => ej_int)) (fun mixed_42 s_49 => (bj_rho (ρ2 := [some (D.ref p_base), some (D.int many_0), none, some (D.int at_7), some (D.int v_21), none, some (D.int mixed_42)]) rfl (bj_one (bj_ret (fin := fun a s' => (a, s')) (ej_op o_md (ej_cb1 o_int (ej_op o_fd (ej_var (e := D.int) mixed_42 rfl) (fun _ _ => ej_int))) (fun _ _ => (ej_var (e := D.int) many_0 rfl))) (fun P a s' h => (fun P h => h.1) P h))))))))))))))))))))))))))))))))), (by unfold m_law_drip; rfl)⟩
  exact key { nx := fun _ M' => k .non M', rt := k } E (by rw [e]; exact h.mono fun r h => Φd.of (e := fun r : Int × ((List Int) × Int × Int) => D.int r.1) (M := fun r => mu M p_base ((cL3 (eL D.int) D.int D.int) r.2)) h)
@[irreducible] noncomputable def m_law_any (t_base : (List Int) × Int × Int) (some_0 : List Int) : Res (Int × ((List Int) × Int × Int)) :=
  (m_law_drip t_base (some_0.length : Int)).bind fun r_1 =>
  (ixR some_0 r_1.1).bind fun t_2 =>
  (Res.ok (t_2, r_1.2))
theorem T_law_any (t_base : (List Int) × Int × Int) (some_0 : List Int) (M : Mem) (p_base : Addr) (k : D → Mem → Prop) (E : XP) (hp_base : M p_base = none) (h : (m_law_any t_base some_0).wp fun r => k (D.int r.1) (mu M p_base ((cL3 (eL D.int) D.int D.int) r.2))) : w_law_any [D.ref p_base, (eL D.int) some_0] (mu M p_base ((cL3 (eL D.int) D.int D.int) t_base)) k E := by
  rw [w_law_any_eq]
  obtain ⟨m, key, e⟩ : ∃ m, BJ (fun t => mu M p_base ((cL3 (eL D.int) D.int D.int) t)) [some (D.ref p_base), some ((eL D.int) some_0)] t_base
    (wRet (wOp dIx (wVar 1) (wFn 2 0 w_law_drip (wcP (waCons (wVar 0) (waCons (wCB (b1 (dLenO "Row" w_Row_len dLen)) (waCons (wVar 1) waNil)) waNil)))))) (Φd (fun r : Int × ((List Int) × Int × Int) => D.int r.1) fun r => mu M p_base ((cL3 (eL D.int) D.int D.int) r.2)) m ∧ m = m_law_any t_base some_0 := ⟨_,
    (bj_one (bj_ret (fin := fun a s' => (a, s')) (ej_op (o_ix (e := D.int)) (ej_var (e := (eL D.int)) some_0 rfl) (fun _ _ => (ej_fnM (n := 2) (m := 0) (e := D.int) (cj_p (aj_cons (ej_cell rfl) (fun _ _ => (aj_one (ej_cb1 (o_lenQ (e1 := (eL D.int)) (fun _ _ _ h => h) (o_len (e := D.int))) (ej_var (e := (eL D.int)) some_0 rfl)))))) (fun x t => m_law_drip t x.2) (ca_base hp_base) (fun _ _ h => h) (fun x N t k E hp h => T_law_drip t x.2 N _ k E hp h)))) (fun P a s' h => (fun P h => h.1) P h))), (by unfold m_law_any; rfl)⟩
  exact key { nx := fun _ M' => k .non M', rt := k } E (by rw [e]; exact h.mono fun r h => Φd.of (e := fun r : Int × ((List Int) × Int × Int) => D.int r.1) (M := fun r => mu M p_base ((cL3 (eL D.int) D.int D.int) r.2)) h)
@[irreducible] noncomputable def m_law_gains (t_base : (List Int) × Int × Int) (days_0 : Int) : Res ((List Int) × ((List Int) × Int × Int)) :=
  (m_law_drip t_base 7).bind fun r_2 =>
  let way_1 := r_2.1
  (if (decide (way_1 < 2)) then
  (rngR 0 days_0).bind fun r_7 =>
  (lcS (fun (x_5 : Int) (s_6 : (List Int) × Int × Int) => if true then (m_law_drip s_6 7).bind fun r_9 =>
  Res.ok (some (r_9.1 - 3), r_9.2) else .ok (none, s_6)) r_7 [] r_2.2).bind fun q_8 =>
  (Res.ok (q_8.1, q_8.2))
  else
  (if (decide (way_1 = 2)) then
  (rngR 0 days_0).bind fun r_13 =>
  (lcS (fun (x_11 : Int) (s_12 : (List Int) × Int × Int) => if true then (m_law_any s_12 [0, 0, 0, 1, (-1)]).bind fun r_15 =>
  Res.ok (some r_15.1, r_15.2) else .ok (none, s_12)) r_13 [] r_2.2).bind fun q_14 =>
  (Res.ok (q_14.1, q_14.2))
  else
  (if (decide (way_1 = 3)) then
  (rngR 0 days_0).bind fun r_19 =>
  (lcS (fun (x_17 : Int) (s_18 : (List Int) × Int × Int) => if true then (pwR 10 20).bind fun t_21 =>
  (pwR 10 20).bind fun t_22 =>
  (pwR 10 6).bind fun t_23 =>
  (m_law_any s_18 [t_21, (1 - t_22), t_23, 0, (-999999), 7]).bind fun r_24 =>
  Res.ok (some r_24.1, r_24.2) else .ok (none, s_18)) r_19 [] r_2.2).bind fun q_20 =>
  (Res.ok (q_20.1, q_20.2))
  else
  (m_law_drip r_2.2 5).bind fun r_27 =>
  (rngR 0 (1 + r_27.1)).bind fun r_28 =>
  (lcS (fun (x_25 : Int) (s_26 : (List Int) × Int × Int) => if true then (m_law_drip s_26 9).bind fun r_30 =>
  Res.ok (some (r_30.1 - 4), r_30.2) else .ok (none, s_26)) r_28 [] r_27.2).bind fun q_29 =>
  let s_32 := (q_29.2, q_29.1)
  Res.bind (if (decide (way_1 = 4)) then
  (ixR s_32.2 0).bind fun t_36 =>
  (setR s_32.2 0 (t_36 - s_32.2.sum)).bind fun l_37 =>
  let s_38 := (s_32.1, l_37)
  (Res.ok ((), s_38))
  else
  (Res.ok ((), s_32))) fun q_68 =>
  let v_39 := q_68.1
  let s_40 := q_68.2
  (rngR 0 days_0).bind fun r_43 =>
  (lcS (fun (x_41 : Int) (s_42 : ((List Int) × Int × Int) × (List Int)) => if true then (mdR x_41 (s_42.2.length : Int)).bind fun t_45 =>
  (ixR s_42.2 t_45).bind fun t_46 =>
  Res.ok (some t_46, s_42) else .ok (none, s_42)) r_43 [] s_40).bind fun q_44 =>
  let s_48 := (q_44.2, q_44.1)
  Res.bind (if (decide (way_1 = 6)) then
  (m_law_drip s_48.1.1 days_0).bind fun r_58 =>
  let at_57 := r_58.1
  let s_59 := ((r_58.2, s_48.1.2), s_48.2)
  (ixR s_59.2 at_57).bind fun t_61 =>
  (m_law_any s_59.1.1 [1, (-1), 30]).bind fun r_62 =>
  (setR ((r_62.2, s_59.1.2), s_59.2).2 at_57 (t_61 + r_62.1)).bind fun l_63 =>
  let s_64 := (((r_62.2, s_59.1.2), s_59.2).1, l_63)
  (Res.ok ((), s_64))
  else
  (Res.ok ((), s_48))) fun q_67 =>
  let v_65 := q_67.1
  let s_66 := q_67.2
  (Res.ok (s_66.2, s_66.1.1)))))
theorem T_law_gains (t_base : (List Int) × Int × Int) (days_0 : Int) (M : Mem) (p_base : Addr) (k : D → Mem → Prop) (E : XP) (hp_base : M p_base = none) (h : (m_law_gains t_base days_0).wp fun r => k ((eL D.int) r.1) (mu M p_base ((cL3 (eL D.int) D.int D.int) r.2))) : w_law_gains [D.ref p_base, D.int days_0] (mu M p_base ((cL3 (eL D.int) D.int D.int) t_base)) k E := by
  rw [w_law_gains_eq]
  obtain ⟨m, key, e⟩ : ∃ m, BJ (fun t => mu M p_base ((cL3 (eL D.int) D.int D.int) t)) [some (D.ref p_base), some (D.int days_0), none, none, none, none, none] t_base
    (wSeq (wAsg (wFn 2 0 w_law_drip (wcP (waCons (wVar 0) (waCons (wC (.int 7)) waNil)))) (wgName 2))
  (wSeq (wIfS (wTest (wOp dLt (wVar 2) (wC (.int 2)))) (wRet (wDp [4, 3] (wLc false (wiR1 (waCons (wVar 1) waNil)) (wgName 6) wYes (wOp dSub (wFn 2 0 w_law_drip (wcP (waCons (wVar 0) (waCons (wC (.int 7)) waNil)))) (wC (.int 3))) [6]))) wNext)
  (wKill [5, 6] (wSeq (wIfS (wTest (wOp (dEqO "Row" ["Row"] w_Row_eq dEq) (wVar 2) (wC (.int 2)))) (wRet (wDp [4, 3] (wLc false (wiR1 (waCons (wVar 1) waNil)) (wgName 6) wYes (wFn 2 0 w_law_any (wcP (waCons (wVar 0) (waCons (wLst false (waCons (wC (.int 0)) (waCons (wC (.int 0)) (waCons (wC (.int 0)) (waCons (wC (.int 1)) (waCons (wUn dNeg (wC (.int 1))) waNil)))))) waNil)))) [6]))) wNext)
  (wKill [5, 6] (wSeq (wIfS (wTest (wOp (dEqO "Row" ["Row"] w_Row_eq dEq) (wVar 2) (wC (.int 3)))) (wRet (wDp [4, 3] (wLc false (wiR1 (waCons (wVar 1) waNil)) (wgName 6) wYes (wFn 2 0 w_law_any (wcP (waCons (wVar 0) (waCons (wLst false (waCons (wOp dPw (wC (.int 10)) (wC (.int 20))) (waCons (wOp dSub (wC (.int 1)) (wOp dPw (wC (.int 10)) (wC (.int 20)))) (waCons (wOp dPw (wC (.int 10)) (wC (.int 6))) (waCons (wC (.int 0)) (waCons (wUn dNeg (wC (.int 999999))) (waCons (wC (.int 7)) waNil))))))) waNil)))) [6]))) wNext)
  (wKill [5, 6] (wSeq (wAsg (wLc true (wiR1 (waCons (wOp (dAdd false) (wC (.int 1)) (wFn 2 0 w_law_drip (wcP (waCons (wVar 0) (waCons (wC (.int 5)) waNil))))) waNil)) (wgName 6) wYes (wOp dSub (wFn 2 0 w_law_drip (wcP (waCons (wVar 0) (waCons (wC (.int 9)) waNil)))) (wC (.int 4))) [6]) (wgName 3))
  (wSeq (wIfS (wTest (wOp (dEqO "Row" ["Row"] w_Row_eq dEq) (wVar 2) (wC (.int 4)))) (wAsg (wOp dSub (wOp dIx (wVar 3) (wC (.int 0))) (wCB (b1 dSum) (waCons (wVar 3) waNil))) (wgSub (wVar 3) (wC (.int 0)))) wNext)
  (wKill [5, 6] (wSeq (wAsg (wLc true (wiR1 (waCons (wVar 1) waNil)) (wgName 6) wYes (wOp dIx (wVar 3) (wOp dMd (wCB (b1 dInt) (waCons (wVar 6) waNil)) (wCB (b1 (dLenO "Row" w_Row_len dLen)) (waCons (wVar 3) waNil)))) [6]) (wgName 4))
  (wSeq (wIfS (wTest (wOp (dEqO "Row" ["Row"] w_Row_eq dEq) (wVar 2) (wC (.int 6)))) (wSeq (wAsg (wFn 2 0 w_law_drip (wcP (waCons (wVar 0) (waCons (wVar 1) waNil)))) (wgName 5))
  (wAsg (wOp (dAdd false) (wOp dIx (wVar 4) (wVar 5)) (wFn 2 0 w_law_any (wcP (waCons (wVar 0) (waCons (wLst false (waCons (wC (.int 1)) (waCons (wUn dNeg (wC (.int 1))) (waCons (wC (.int 30)) waNil)))) waNil))))) (wgSub (wVar 4) (wVar 5)))) wNext)
  (wKill [1, 2, 5, 6] (wRet (wDp [3] (wFz (wVar 4))))))))))))))))) (Φd (fun r : (List Int) × ((List Int) × Int × Int) => (eL D.int) r.1) fun r => mu M p_base ((cL3 (eL D.int) D.int D.int) r.2)) m ∧ m = m_law_gains t_base days_0 := ⟨_,
    (bj_asg (e := D.int) (ej_fnM (n := 2) (m := 0) (e := D.int) (cj_p (aj_cons (ej_cell rfl) (fun _ _ => (aj_one ej_int)))) (fun x t => m_law_drip t x.2) (ca_base hp_base) (fun _ _ h => h) (fun x N t k E hp h => T_law_drip t x.2 N _ k E hp h)) (fun way_1 s_3 => (bj_rho (ρ2 := [some (D.ref p_base), some (D.int days_0), some (D.int way_1), none, none, none, none]) rfl (bj_if (tj_test (ej_op o_lt (ej_var (e := D.int) way_1 rfl) (fun _ _ => ej_int))) (fun s_4 => (bj_retD (fin := fun a s' => (a, s')) (ej_lcS (eo := D.int) (ρt := fun (x_5 : Int) => [some (D.ref p_base), some (D.int days_0), some (D.int way_1), none, none, none, some (D.int x_5)]) (ij_r1 (aj_one (ej_var (e := D.int) days_0 rfl))) (fun _ _ _ _ h => h) (fun x_5 _ => tj_yes) (fun x_5 _ => (ej_op o_sub (ej_fnM (n := 2) (m := 0) (e := D.int) (cj_p (aj_cons (ej_cell rfl) (fun _ _ => (aj_one ej_int)))) (fun x t => m_law_drip t x.2) (ca_base hp_base) (fun _ _ h => h) (fun x N t k E hp h => T_law_drip t x.2 N _ k E hp h)) (fun _ _ => ej_int)))) (fun P a s' h => (fun P h => h.1) P h))) (fun s_4 => (bj_skip (bj_kill (bj_rho (ρ2 := [some (D.ref p_base), some (D.int days_0), some (D.int way_1), none, none, none, none]) rfl (bj_rho (ρ2 := [some (D.ref p_base), some (D.int days_0), some (D.int way_1), none, none, none, none]) rfl (bj_if (tj_test (ej_op (o_eqQ (e1 := D.int) (fun _ _ _ _ h => h) (o_eq (e := D.int) peq_int)) (ej_var (e := D.int) way_1 rfl) (fun _ _ => ej_int))) (fun s_10 => (bj_retD (fin := fun a s' => (a, s')) (ej_lcS (eo := D.int) (ρt := fun (x_11 : Int) => [some (D.ref p_base), some (D.int days_0), some (D.int way_1), none, none, none, some (D.int x_11)]) (ij_r1 (aj_one (ej_var (e := D.int) days_0 rfl))) (fun _ _ _ _ h => h) (fun x_11 _ => tj_yes) (fun x_11 _ => (ej_fnM (n := 2) (m := 0) (e := D.int) (cj_p (aj_cons (ej_cell rfl) (fun _ _ => (aj_one (ej_lstL (e := D.int) (lj_cons ej_int (fun _ _ => (lj_cons ej_int (fun _ _ => (lj_cons ej_int (fun _ _ => (lj_cons ej_int (fun _ _ => (lj_cons (ej_un o_neg ej_int) (fun _ _ => lj_nil)))))))))) (by decide)))))) (fun x t => m_law_any t x.2) (ca_base hp_base) (fun _ _ h => h) (fun x N t k E hp h => T_law_any t x.2 N _ k E hp h)))) (fun P a s' h => (fun P h => h.1) P h))) (fun s_10 => (bj_skip (bj_kill (bj_rho (ρ2 := [some (D.ref p_base), some (D.int days_0), some (D.int way_1), none, none, none, none]) rfl (bj_rho (ρ2 := [some (D.ref p_base), some (D.int days_0), some (D.int way_1), none, none, none, none]) rfl (bj_if (tj_test (ej_op (o_eqQ (e1 := D.int) (fun _ _ _ _ h => h) (o_eq (e := D.int) peq_int)) (ej_var (e := D.int) way_1 rfl) (fun _ _ => ej_int))) (fun s_16 => (bj_retD (fin := fun a s' => (a, s')) (ej_lcS (eo := D.int) (ρt := fun (x_17 : Int) => [some (D.ref p_base), some (D.int days_0), some (D.int way_1), none, none, none, some (D.int x_17)]) (ij_r1 (aj_one (ej_var (e := D.int) days_0 rfl))) (fun _ _ _ _ h => h) (fun x_17 _ => tj_yes) (fun x_17 _ => (ej_fnM (n := 2) (m := 0) (e := D.int) (cj_p (aj_cons (ej_cell rfl) (fun _ _ => (aj_one (ej_lstL (e := D.int) (lj_cons (ej_op o_pw ej_int (fun _ _ => ej_int)) (fun _ _ => (lj_cons (ej_op o_sub ej_int (fun _ _ => (ej_op o_pw ej_int (fun _ _ => ej_int)))) (fun _ _ => (lj_cons (ej_op o_pw ej_int (fun _ _ => ej_int)) (fun _ _ => (lj_cons ej_int (fun _ _ => (lj_cons (ej_un o_neg ej_int) (fun _ _ => (lj_cons ej_int (fun _ _ => lj_nil)))))))))))) (by decide)))))) (fun x t => m_law_any t x.2) (ca_base hp_base) (fun _ _ h => h) (fun x N t k E hp h => T_law_any t x.2 N _ k E hp h)))) (fun P a s' h => (fun P h => h.1) P h))) (fun s_16 => (bj_skip (bj_kill (bj_rho (ρ2 := [some (D.ref p_base), some (D.int days_0), some (D.int way_1), none, none, none, none]) rfl (bj_rho (ρ2 := [some (D.ref p_base), some (D.int days_0), some (D.int way_1), none, none, none, none]) rfl (bj_new (c := (cL D.int)) di_base (nj_lcS (eo := D.int) (ρt := fun (x_25 : Int) => [some (D.ref p_base), some (D.int days_0), some (D.int way_1), none, none, none, some (D.int x_25)]) (ij_r1 (aj_one (ej_op o_add ej_int (fun _ _ => (ej_fnM (n := 2) (m := 0) (e := D.int) (cj_p (aj_cons (ej_cell rfl) (fun _ _ => (aj_one ej_int)))) (fun x t => m_law_drip t x.2) (ca_base hp_base) (fun _ _ h => h) (fun x N t k E hp h => T_law_drip t x.2 N _ k E hp h)))))) (fun _ _ _ _ h => h) (fun x_25 _ => tj_yes) (fun x_25 _ => (ej_op o_sub (ej_fnM (n := 2) (m := 0) (e := D.int) (cj_p (aj_cons (ej_cell rfl) (fun _ _ => (aj_one ej_int)))) (fun x t => m_law_drip t x.2) (ca_base hp_base) (fun _ _ h => h) (fun x N t k E hp h => T_law_drip t x.2 N _ k E hp h)) (fun _ _ => ej_int)))) (fun _ _ p_few_31 μ_few_31 h_few_31 => (bj_rho (ρ2 := [some (D.ref p_base), some (D.int days_0), some (D.int way_1), some (D.ref p_few_31), none, none, none]) rfl (bj_ifJ (σ := Unit) (ρj := fun v_39 => [some (D.ref p_base), some (D.int days_0), some (D.int way_1), some (D.ref p_few_31), none, none, none]) (tj_test (ej_op (o_eqQ (e1 := D.int) (fun _ _ _ _ h => h) (o_eq (e := D.int) peq_int)) (ej_var (e := D.int) way_1 rfl) (fun _ _ => ej_int))) (fun _ => (bj_one (bj_set h_few_31.ca rfl (ej_op o_sub (ej_ixC h_few_31.ca rfl ej_int) (fun _ _ => (ej_cb1C (e := D.int) h_few_31.ca rfl c_sum))) (fun _ _ => ej_int) (fun _ => (bj_jn (v := ()) rfl))))) (fun _ => (bj_jn (v := ()) rfl)) (fun v_39 _ => (bj_rho (ρ2 := [some (D.ref p_base), some (D.int days_0), some (D.int way_1), some (D.ref p_few_31), none, none, none]) rfl (bj_new (c := (cL D.int)) (h_few_31.di di_base) (nj_lcS (eo := D.int) (ρt := fun (x_41 : Int) => [some (D.ref p_base), some (D.int days_0), some (D.int way_1), some (D.ref p_few_31), none, none, some (D.int x_41)]) (ij_r1 (aj_one (ej_var (e := D.int) days_0 rfl))) (fun _ _ _ _ h => h) (fun x_41 _ => tj_yes) (fun x_41 _ => (ej_ixC h_few_31.ca rfl (ej_op o_md (ej_cb1 o_int (ej_var (e := D.int) x_41 rfl)) (fun _ _ => (ej_cb1C (e := D.int) h_few_31.ca rfl (c_lenQ (fun _ _ h => h) c_len))))))) (fun _ _ p_found_47 μ_found_47 h_found_47 => (bj_rho (ρ2 := [some (D.ref p_base), some (D.int days_0), some (D.int way_1), some (D.ref p_few_31), some (D.ref p_found_47), none, none]) rfl (bj_ifJ (σ := Unit) (ρj := fun v_65 => [some (D.ref p_base), none, none, some (D.ref p_few_31), some (D.ref p_found_47), none, none]) (tj_test (ej_op (o_eqQ (e1 := D.int) (fun _ _ _ _ h => h) (o_eq (e := D.int) peq_int)) (ej_var (e := D.int) way_1 rfl) (fun _ _ => ej_int))) (fun _ => (bj_asg (e := D.int) (ej_fnM (n := 2) (m := 0) (e := D.int) (cj_p (aj_cons (ej_cell rfl) (fun _ _ => (aj_one (ej_var (e := D.int) days_0 rfl))))) (fun x t => m_law_drip t x.2) (((ca_base hp_base).up h_few_31).up h_found_47) (fun _ _ h => h) (fun x N t k E hp h => T_law_drip t x.2 N _ k E hp h)) (fun at_57 s_60 => (bj_rho (ρ2 := [some (D.ref p_base), some (D.int days_0), some (D.int way_1), some (D.ref p_few_31), some (D.ref p_found_47), some (D.int at_57), none]) rfl (bj_one (bj_set h_found_47.ca rfl (ej_op o_add (ej_ixC h_found_47.ca rfl (ej_var (e := D.int) at_57 rfl)) (fun _ _ => (ej_fnM (n := 2) (m := 0) (e := D.int) (cj_p (aj_cons (ej_cell rfl) (fun _ _ => (aj_one (ej_lstL (e := D.int) (lj_cons ej_int (fun _ _ => (lj_cons (ej_un o_neg ej_int) (fun _ _ => (lj_cons ej_int (fun _ _ => lj_nil)))))) (by decide)))))) (fun x t => m_law_any t x.2) (((ca_base hp_base).up h_few_31).up h_found_47) (fun _ _ h => h) (fun x N t k E hp h => T_law_any t x.2 N _ k E hp h)))) (fun _ _ => (ej_var (e := D.int) at_57 rfl)) (fun _ => (bj_jn (v := ()) rfl)))))))) (fun _ => (bj_jn (v := ()) rfl)) (fun v_65 _ => (bj_rho (ρ2 := [some (D.ref p_base), none, none, some (D.ref p_few_31), some (D.ref p_found_47), none, none]) rfl (bj_one (bj_retFD (fin := fun s => (s.2, s.1.1)) rfl (fun P s' h => (fun P h => (frz1 h_found_47.cr (drop1 h_few_31.cr h.1))) P h)))))))))))))))))))))))))))))))))))), (by unfold m_law_gains; rfl)⟩
  exact key { nx := fun _ M' => k .non M', rt := k } E (by rw [e]; exact h.mono fun r h => Φd.of (e := fun r : (List Int) × ((List Int) × Int × Int) => (eL D.int) r.1) (M := fun r => mu M p_base ((cL3 (eL D.int) D.int D.int) r.2)) h)
@[irreducible] noncomputable def m_law_any_1 (t_base : (List Int) × Int × Int) (some_0 : List (List Int)) : Res ((List Int) × ((List Int) × Int × Int)) :=
  (m_law_drip t_base (some_0.length : Int)).bind fun r_1 =>
  (ixR some_0 r_1.1).bind fun t_2 =>
  (Res.ok (t_2, r_1.2))
theorem T_law_any_1 (t_base : (List Int) × Int × Int) (some_0 : List (List Int)) (M : Mem) (p_base : Addr) (k : D → Mem → Prop) (E : XP) (hp_base : M p_base = none) (h : (m_law_any_1 t_base some_0).wp fun r => k ((eL D.int) r.1) (mu M p_base ((cL3 (eL D.int) D.int D.int) r.2))) : w_law_any [D.ref p_base, (eL (eL D.int)) some_0] (mu M p_base ((cL3 (eL D.int) D.int D.int) t_base)) k E := by
  rw [w_law_any_eq]
  obtain ⟨m, key, e⟩ : ∃ m, BJ (fun t => mu M p_base ((cL3 (eL D.int) D.int D.int) t)) [some (D.ref p_base), some ((eL (eL D.int)) some_0)] t_base
    (wRet (wOp dIx (wVar 1) (wFn 2 0 w_law_drip (wcP (waCons (wVar 0) (waCons (wCB (b1 (dLenO "Row" w_Row_len dLen)) (waCons (wVar 1) waNil)) waNil)))))) (Φd (fun r : (List Int) × ((List Int) × Int × Int) => (eL D.int) r.1) fun r => mu M p_base ((cL3 (eL D.int) D.int D.int) r.2)) m ∧ m = m_law_any_1 t_base some_0 := ⟨_,
    (bj_one (bj_ret (fin := fun a s' => (a, s')) (ej_op (o_ix (e := (eL D.int))) (ej_var (e := (eL (eL D.int))) some_0 rfl) (fun _ _ => (ej_fnM (n := 2) (m := 0) (e := D.int) (cj_p (aj_cons (ej_cell rfl) (fun _ _ => (aj_one (ej_cb1 (o_lenQ (e1 := (eL (eL D.int))) (fun _ _ _ h => h) (o_len (e := (eL D.int)))) (ej_var (e := (eL (eL D.int))) some_0 rfl)))))) (fun x t => m_law_drip t x.2) (ca_base hp_base) (fun _ _ h => h) (fun x N t k E hp h => T_law_drip t x.2 N _ k E hp h)))) (fun P a s' h => (fun P h => h.1) P h))), (by unfold m_law_any_1; rfl)⟩
  exact key { nx := fun _ M' => k .non M', rt := k } E (by rw [e]; exact h.mono fun r h => Φd.of (e := fun r : (List Int) × ((List Int) × Int × Int) => (eL D.int) r.1) (M := fun r => mu M p_base ((cL3 (eL D.int) D.int D.int) r.2)) h)
@[irreducible] noncomputable def m_law_known (t_base : (List Int) × Int × Int) : Res ((List Int) × ((List Int) × Int × Int)) :=
  (m_law_any_1 t_base [[(-3), 5, (-3), (-3), 5, (-3)], [5, 5, (-13), 5, 5, 5, (-13), 5, 5, (-13), 5, 5, 5, (-13), 5, 5], [(-1), 3, (-1), (-3), 0, 3, (-1)], [1, (-1), 1, (-1), 1], [0, 0, 0], [(-1), 2, (-1)], [4]]).bind fun r_1 =>
  (Res.ok (r_1.1, r_1.2))
theorem T_law_known (t_base : (List Int) × Int × Int) (M : Mem) (p_base : Addr) (k : D → Mem → Prop) (E : XP) (hp_base : M p_base = none) (h : (m_law_known t_base).wp fun r => k ((eL D.int) r.1) (mu M p_base ((cL3 (eL D.int) D.int D.int) r.2))) : w_law_known [D.ref p_base] (mu M p_base ((cL3 (eL D.int) D.int D.int) t_base)) k E := by
  rw [w_law_known_eq]
  obtain ⟨m, key, e⟩ : ∃ m, BJ (fun t => mu M p_base ((cL3 (eL D.int) D.int D.int) t)) [some (D.ref p_base)] t_base
    (wRet (wFn 2 0 w_law_any (wcP (waCons (wVar 0) (waCons (wLst false (waCons (wLst false (waCons (wUn dNeg (wC (.int 3))) (waCons (wC (.int 5)) (waCons (wUn dNeg (wC (.int 3))) (waCons (wUn dNeg (wC (.int 3))) (waCons (wC (.int 5)) (waCons (wUn dNeg (wC (.int 3))) waNil))))))) (waCons (wLst false (waCons (wC (.int 5)) (waCons (wC (.int 5)) (waCons (wUn dNeg (wC (.int 13))) (waCons (wC (.int 5)) (waCons (wC (.int 5)) (waCons (wC (.int 5)) (waCons (wUn dNeg (wC (.int 13))) (waCons (wC (.int 5)) (waCons (wC (.int 5)) (waCons (wUn dNeg (wC (.int 13))) (waCons (wC (.int 5)) (waCons (wC (.int 5)) (waCons (wC (.int 5)) (waCons (wUn dNeg (wC (.int 13))) (waCons (wC (.int 5)) (waCons (wC (.int 5)) waNil))))))))))))))))) (waCons (wLst false (waCons (wUn dNeg (wC (.int 1))) (waCons (wC (.int 3)) (waCons (wUn dNeg (wC (.int 1))) (waCons (wUn dNeg (wC (.int 3))) (waCons (wC (.int 0)) (waCons (wC (.int 3)) (waCons (wUn dNeg (wC (.int 1))) waNil)))))))) (waCons (wLst false (waCons (wC (.int 1)) (waCons (wUn dNeg (wC (.int 1))) (waCons (wC (.int 1)) (waCons (wUn dNeg (wC (.int 1))) (waCons (wC (.int 1)) waNil)))))) (waCons (wLst false (waCons (wC (.int 0)) (waCons (wC (.int 0)) (waCons (wC (.int 0)) waNil)))) (waCons (wLst false (waCons (wUn dNeg (wC (.int 1))) (waCons (wC (.int 2)) (waCons (wUn dNeg (wC (.int 1))) waNil)))) (waCons (wLst false (waCons (wC (.int 4)) waNil)) waNil)))))))) waNil))))) (Φd (fun r : (List Int) × ((List Int) × Int × Int) => (eL D.int) r.1) fun r => mu M p_base ((cL3 (eL D.int) D.int D.int) r.2)) m ∧ m = m_law_known t_base := ⟨_,
    (bj_one (bj_ret (fin := fun a s' => (a, s')) (ej_fnM (n := 2) (m := 0) (e := (eL D.int)) (cj_p (aj_cons (ej_cell rfl) (fun _ _ => (aj_one (ej_lstL (e := (eL D.int)) (lj_cons (ej_lstL (e := D.int) (lj_cons (ej_un o_neg ej_int) (fun _ _ => (lj_cons ej_int (fun _ _ => (lj_cons (ej_un o_neg ej_int) (fun _ _ => (lj_cons (ej_un o_neg ej_int) (fun _ _ => (lj_cons ej_int (fun _ _ => (lj_cons (ej_un o_neg ej_int) (fun _ _ => lj_nil)))))))))))) (by decide)) (fun _ _ => (lj_cons (ej_lstL (e := D.int) (lj_cons ej_int (fun _ _ => (lj_cons ej_int (fun _ _ => (lj_cons (ej_un o_neg ej_int) (fun _ _ => (lj_cons ej_int (fun _ _ => (lj_cons ej_int (fun _ _ => (lj_cons ej_int (fun _ _ => (lj_cons (ej_un o_neg ej_int) (fun _ _ => (lj_cons ej_int (fun _ _ => (lj_cons ej_int (fun _ _ => (lj_cons (ej_un o_neg ej_int) (fun _ _ => (lj_cons ej_int (fun _ _ => (lj_cons ej_int (fun _ _ => (lj_cons ej_int (fun _ _ => (lj_cons (ej_un o_neg ej_int) (fun _ _ => (lj_cons ej_int (fun _ _ => (lj_cons ej_int (fun _ _ => lj_nil)))))))))))))))))))))))))))))))) (by decide)) (fun _ _ => (lj_cons (ej_lstL (e := D.int) (lj_cons (ej_un o_neg ej_int) (fun _ _ => (lj_cons ej_int (fun _ _ => (lj_cons (ej_un o_neg ej_int) (fun _ _ => (lj_cons (ej_un o_neg ej_int) (fun _ _ => (lj_cons ej_int (fun _ _ => (lj_cons ej_int (fun _ _ => (lj_cons (ej_un o_neg ej_int) (fun _ _ => lj_nil)))))))))))))) (by decide)) (fun _ _ => (lj_cons (ej_lstL (e := D.int) (lj_cons ej_int (fun _ _ => (lj_cons (ej_un o_neg ej_int) (fun _ _ => (lj_cons ej_int (fun _ _ => (lj_cons (ej_un o_neg ej_int) (fun _ _ => (lj_cons ej_int (fun _ _ => lj_nil)))))))))) (by decide)) (fun _ _ => (lj_cons (ej_lstL (e := D.int) (lj_cons ej_int (fun _ _ => (lj_cons ej_int (fun _ _ => (lj_cons ej_int (fun _ _ => lj_nil)))))) (by decide)) (fun _ _ => (lj_cons (ej_lstL (e := D.int) (lj_cons (ej_un o_neg ej_int) (fun _ _ => (lj_cons ej_int (fun _ _ => (lj_cons (ej_un o_neg ej_int) (fun _ _ => lj_nil)))))) (by decide)) (fun _ _ => (lj_cons (ej_lstL (e := D.int) (lj_cons ej_int (fun _ _ => lj_nil)) (by decide)) (fun _ _ => lj_nil)))))))))))))) (by decide)))))) (fun x t => m_law_any_1 t x.2) (ca_base hp_base) (fun _ _ h => h) (fun x N t k E hp h => T_law_any_1 t x.2 N _ k E hp h)) (fun P a s' h => (fun P h => h.1) P h))), (by unfold m_law_known; rfl)⟩
  exact key { nx := fun _ M' => k .non M', rt := k } E (by rw [e]; exact h.mono fun r h => Φd.of (e := fun r : (List Int) × ((List Int) × Int × Int) => (eL D.int) r.1) (M := fun r => mu M p_base ((cL3 (eL D.int) D.int D.int) r.2)) h)
@[irreducible] noncomputable def m_is_integer (value_0 : Int) : Res Bool :=
  (Res.ok true)
theorem T_is_integer (value_0 : Int) (M : Mem) (k : D → Mem → Prop) (E : XP) (h : (m_is_integer value_0).wp fun r => k (D.bl r) M) : w_is_integer [D.int value_0] M k E := by
  rw [w_is_integer_eq]
  obtain ⟨m, key, e⟩ : ∃ m, BJ (fun _ : Unit => M) [some (D.int value_0)] ()
    (wRet (wAndT (wCB (dIsi clsT) (waCons (wVar 0) (waCons (wC (.ty "int")) waNil))) (wNotT (wCB (dIsi clsT) (waCons (wVar 0) (waCons (wC (.ty "bool")) waNil)))))) (Φd D.bl fun _ => M) m ∧ m = m_is_integer value_0 := ⟨_,
    (bj_one (bj_ret (fin := fun a s' => a) (ej_andP (ej_isi (T := clsT) (c := D.ty "int") (e := D.int) true (fun _ M k h => isi_ttT (k := fun b => k (.bl b) M) rfl rfl h) (ej_var (e := D.int) value_0 rfl)) (fun _ => (ej_notT t_bl (ej_isi (T := clsT) (c := D.ty "bool") (e := D.int) false (fun _ M k h => isi_ttF (k := fun b => k (.bl b) M) rfl rfl h) (ej_var (e := D.int) value_0 rfl))))) (fun P a s' h => (fun P h => h.1) P h))), (by unfold m_is_integer; rfl)⟩
  exact key { nx := fun _ M' => k .non M', rt := k } E (by rw [e]; exact h.mono fun r h => Φd.of (e := D.bl) (M := fun _ => M) h)
@[irreducible] noncomputable def m_are_integers (value_0 : List Int) : Res Bool :=
  Res.bind (if true then (lcR (fun (x_1 : Int) => (Res.ok true)) (fun (x_1 : Int) => (m_is_integer x_1).bind fun r_11 =>
  (Res.ok r_11)) value_0 []).bind fun l_10 =>
  (Res.ok (l_10.all id)) else .ok false) fun b_9 =>
  (Res.ok b_9)
theorem T_are_integers (value_0 : List Int) (M : Mem) (k : D → Mem → Prop) (E : XP) (h : (m_are_integers value_0).wp fun r => k (D.bl r) M) : w_are_integers [(eL D.int) value_0] M k E := by
  rw [w_are_integers_eq]
  obtain ⟨m, key, e⟩ : ∃ m, BJ (fun _ : Unit => M) [some ((eL D.int) value_0), none] ()
    (wRet (wAndT (wIsi2 "list" "tuple" (wVar 0)) (wCB (b1 dAll) (waCons (wLc false (wiAny (wVar 0)) (wgName 1) wYes (wFn 1 0 w_is_integer (wcP (waCons (wVar 1) waNil))) [1]) waNil)))) (Φd D.bl fun _ => M) m ∧ m = m_are_integers value_0 := ⟨_,
    (bj_one (bj_ret (fin := fun a s' => a) (ej_andS (fun s_5 k_6 => (lcR (fun (x_1 : Int) => (Res.ok true)) (fun (x_1 : Int) => (m_is_integer x_1).bind fun r_8 =>
  (Res.ok r_8)) value_0 []).bind fun l_7 =>
  k_6 (l_7.all id)) (ej_isi2 (e := (eL D.int)) true (fun _ _ k h => isi_2T (k := k) rfl rfl h) (ej_var (e := (eL D.int)) value_0 rfl)) (fun _ => (ej_cb1 o_all (ej_lcR (eo := D.bl) (ρt := fun (x_1 : Int) => [some ((eL D.int) value_0), some (D.int x_1)]) (fun x_1 s_2 k_3 => k_3 true) (fun x_1 s_2 k_3 => (m_is_integer x_1).bind fun r_4 =>
  k_3 r_4) (ij_L (ej_var (e := (eL D.int)) value_0 rfl)) (fun _ _ _ _ h => h) (fun x_1 _ => tj_yes) (fun x_1 _ => (ej_fn (n := 1) (m := 0) (e := D.bl) (cj_p (aj_one (ej_var (e := D.int) x_1 rfl))) (fun x => m_is_integer x) (fun _ _ h => h) (fun x M k E h => T_is_integer x M k E h))) (fun _ _ _ => rfl) (fun _ _ _ => rfl)))) (fun _ _ => rfl)) (fun P a s' h => (fun P h => h.1) P h))), (by unfold m_are_integers; rfl)⟩
  exact key { nx := fun _ M' => k .non M', rt := k } E (by rw [e]; exact h.mono fun r h => Φd.of (e := D.bl) (M := fun _ => M) h)
@[irreducible] noncomputable def m_heights_of (gains_0 : List Int) : Res (List Int) :=
  let s_2 := ((), [0])
  forR (fun (v_6 : Unit) (s_7 : Unit × (List Int)) x_8 =>
  (ixR s_7.2 (-1)).bind fun t_9 =>
  (appR s_7.2 (t_9 + x_8)).bind fun l_10 =>
  let s_11 := (s_7.1, l_10)
  (Res.ok (Flow.nx () s_11)))
  (fun v_12 s_13 =>
  (Res.ok s_13.2)) gains_0 () s_2
theorem T_heights_of (gains_0 : List Int) (M : Mem) (k : D → Mem → Prop) (E : XP) (h : (m_heights_of gains_0).wp fun r => k ((eT D.int) r) M) : w_heights_of [(eL D.int) gains_0] M k E := by
  rw [w_heights_of_eq]
  obtain ⟨m, key, e⟩ : ∃ m, BJ (fun _ : Unit => M) [some ((eL D.int) gains_0), none, none] ()
    (wSeq (wAsg (wLst true (waCons (wC (.int 0)) waNil)) (wgName 1))
  (wSeq (wFor (wiAny (wVar 0)) (wgName 2) (wDrop (wBL dApp (wVar 1) (waCons (wOp (dAdd false) (wOp dIx (wVar 1) (wUn dNeg (wC (.int 1)))) (wVar 2)) waNil))) [0, 2])
  (wRet (wDp [1] (wCB (b1 dTuple) (waCons (wVar 1) waNil)))))) (Φd (eT D.int) fun _ => M) m ∧ m = m_heights_of gains_0 := ⟨_,
    (bj_new (c := (cL D.int)) di_unit (nj_lstL (e := D.int) (lj_cons ej_int (fun _ _ => lj_nil)) (by decide)) (fun _ _ p_found_1 μ_found_1 h_found_1 => (bj_rho (ρ2 := [some ((eL D.int) gains_0), some (D.ref p_found_1), none]) rfl (bj_for (σ := Unit) (ρh := fun v_6 => [none, some (D.ref p_found_1), none]) () (ij_L (ej_var (e := (eL D.int)) gains_0 rfl)) rfl (fun _ _ _ _ _ h => h) (fun v_6 _ x_8 => (bj_one (bj_app h_found_1.ca rfl (ej_op o_add (ej_ixC h_found_1.ca rfl (ej_un o_neg ej_int)) (fun _ _ => (ej_var (e := D.int) x_8 rfl))) (fun _ => (bj_nx (v := ()) rfl))))) (fun v_12 _ => (bj_rho (ρ2 := [none, some (D.ref p_found_1), none]) rfl (bj_one (bj_retD (fin := fun a s' => a) (ej_cb1C (e := (eT D.int)) h_found_1.ca rfl c_tuple) (fun P a s' h => (fun P h => (drop1 h_found_1.cr h.1)) P h))))))))), (by unfold m_heights_of; rfl)⟩
  exact key { nx := fun _ M' => k .non M', rt := k } E (by rw [e]; exact h.mono fun r h => Φd.of (e := (eT D.int)) (M := fun _ => M) h)
structure R_Row_0 where
  gains : List Int
  heights : List Int
  days : Int
  total : Int
abbrev f_Row_0 (r : R_Row_0) : List D := [(eT D.int) r.gains, (eT D.int) r.heights, D.int r.days, D.int r.total]
abbrev e_Row_0 (r : R_Row_0) : D := .ins "Row" ["gains", "heights", "days", "total"] (f_Row_0 r)
@[irreducible] noncomputable def m_Row_init (gains_0 : List Int) : Res R_Row_0 :=
  (m_are_integers gains_0).bind fun r_1 =>
  (if ((!r_1) || (decide ((gains_0.length : Int) = 0))) then
  .no
  else
  (if (decide ((gains_0.length : Int) > 48)) then
  .no
  else
  let gains_4 := gains_0
  (m_heights_of gains_0).bind fun r_7 =>
  let heights_6 := r_7
  let days_9 := (gains_0.length : Int)
  (ixR heights_6 (-1)).bind fun t_12 =>
  let total_11 := t_12
  (Res.ok ⟨gains_4, heights_6, days_9, total_11⟩)))
theorem T_Row_init (gains_0 : List Int) (M : Mem) (p_self : Addr) (k : D → Mem → Prop) (E : XP) (hp_self : M p_self = none) (h : (m_Row_init gains_0).wp fun r => k D.non (mu M p_self (Cell.ins "Row" ["gains", "heights", "days", "total"] (f_Row_0 r)))) : w_Row_init [D.ref p_self, (eL D.int) gains_0] (mu M p_self (Cell.ins "Row" [] [])) k E := by
  rw [w_Row_init_eq]
  obtain ⟨m, key, e⟩ : ∃ m, BJ (fun q : Unit => mu M p_self (Cell.ins "Row" [] ((fun _ => []) q))) [some (D.ref p_self), some ((eL D.int) gains_0)] ()
    (wSeq (wIfS (wOr (wNot (wTru (wFn 1 0 w_are_integers (wcP (waCons (wVar 1) waNil))))) (wTest (wOp dEq (wCB (b1 dLen) (waCons (wVar 1) waNil)) (wC (.int 0))))) wNever wNext)
  (wKill [] (wSeq (wIfS (wTest (wOp dGt (wCB (b1 dLen) (waCons (wVar 1) waNil)) (wC (.int (48))))) wNever wNext)
  (wKill [] (wSeq (wSetF ["Row"] "gains" (wVar 0) (wCB (b1 dTuple) (waCons (wVar 1) waNil)))
  (wSeq (wSetF ["Row"] "heights" (wVar 0) (wFn 1 0 w_heights_of (wcP (waCons (wVar 1) waNil))))
  (wSeq (wSetF ["Row"] "days" (wVar 0) (wCB (b1 dLen) (waCons (wVar 1) waNil)))
  (wSetF ["Row"] "total" (wVar 0) (wOp dIx (wFld "heights" (wVar 0)) (wUn dNeg (wC (.int 1)))))))))))) (Φi fun r => (mu M p_self (Cell.ins "Row" ["gains", "heights", "days", "total"] (f_Row_0 r)))) m ∧ m = m_Row_init gains_0 := ⟨_,
    (bj_if (tj_orP (tj_not (tj_tru (β := _) t_bl (ej_fn (n := 1) (m := 0) (e := D.bl) (cj_p (aj_one (ej_var (e := (eL D.int)) gains_0 rfl))) (fun x => m_are_integers x) (fun _ _ h => h) (fun x M k E h => T_are_integers x M k E h)))) (fun _ => (tj_test (ej_op (o_eq (e := D.int) peq_int) (ej_cb1 (o_len (e := D.int)) (ej_var (e := (eL D.int)) gains_0 rfl)) (fun _ _ => ej_int))))) (fun s_2 => bj_never) (fun s_2 => (bj_skip (bj_kill (bj_rho (ρ2 := [some (D.ref p_self), some ((eL D.int) gains_0)]) rfl (bj_rho (ρ2 := [some (D.ref p_self), some ((eL D.int) gains_0)]) rfl (bj_if (tj_test (ej_op o_gt (ej_cb1 (o_len (e := D.int)) (ej_var (e := (eL D.int)) gains_0 rfl)) (fun _ _ => ej_int))) (fun s_3 => bj_never) (fun s_3 => (bj_skip (bj_kill (bj_rho (ρ2 := [some (D.ref p_self), some ((eL D.int) gains_0)]) rfl (bj_rho (ρ2 := [some (D.ref p_self), some ((eL D.int) gains_0)]) rfl (bj_fset (e := (eT D.int)) rfl (fun _ => rfl) (by decide) (by decide) (by decide) (ej_cb1 (o_tuple (e := D.int)) (ej_var (e := (eL D.int)) gains_0 rfl)) (fun gains_4 s_5 => (bj_rho (ρ2 := [some (D.ref p_self), some ((eL D.int) gains_0)]) rfl (bj_fset (e := (eT D.int)) rfl (fun _ => rfl) (by decide) (by decide) (by decide) (ej_fn (n := 1) (m := 0) (e := (eT D.int)) (cj_p (aj_one (ej_var (e := (eL D.int)) gains_0 rfl))) (fun x => m_heights_of x) (fun _ _ h => h) (fun x M k E h => T_heights_of x M k E h)) (fun heights_6 s_8 => (bj_rho (ρ2 := [some (D.ref p_self), some ((eL D.int) gains_0)]) rfl (bj_fset (e := D.int) rfl (fun _ => rfl) (by decide) (by decide) (by decide) (ej_cb1 (o_len (e := D.int)) (ej_var (e := (eL D.int)) gains_0 rfl)) (fun days_9 s_10 => (bj_rho (ρ2 := [some (D.ref p_self), some ((eL D.int) gains_0)]) rfl (bj_one (bj_fset (e := D.int) rfl (fun _ => rfl) (by decide) (by decide) (by decide) (ej_op (o_ixT (e := D.int)) (ej_fldS (e := (eT D.int)) (fun q => q.1.2) rfl (fun _ => rfl)) (fun _ _ => (ej_un o_neg ej_int))) (fun total_11 s_13 => (bj_end (b := (⟨((s_13, total_11)).1.1.1.2, ((s_13, total_11)).1.1.2, ((s_13, total_11)).1.2, ((s_13, total_11)).2⟩ : R_Row_0)) (fun P h => h.2 _)))))))))))))))))))))))))), (by unfold m_Row_init; rfl)⟩
  exact key { nx := fun _ M' => k .non M', rt := k } E (by rw [e]; exact h.mono fun r h => ⟨h, fun _ => h⟩)
@[irreducible] noncomputable def m_law_sums (gains_here_0 : List Int) (length_0 : Int) : Res (List Int) :=
  (rngR 0 (((gains_here_0.length : Int) - length_0) + 1)).bind fun r_2 =>
  (lcM (fun (x_1 : Int) => (cutD gains_here_0 (some x_1) (some (x_1 + length_0))).sum) r_2).bind fun l_3 =>
  (Res.ok l_3)
theorem T_law_sums (gains_here_0 : List Int) (length_0 : Int) (M : Mem) (k : D → Mem → Prop) (E : XP) (h : (m_law_sums gains_here_0 length_0).wp fun r => k ((eL D.int) r) M) : w_law_sums [(eL D.int) gains_here_0, D.int length_0] M k E := by
  rw [w_law_sums_eq]
  obtain ⟨m, key, e⟩ : ∃ m, BJ (fun _ : Unit => M) [some ((eL D.int) gains_here_0), some (D.int length_0), none] ()
    (wRet (wLc false (wiR1 (waCons (wOp (dAdd false) (wOp dSub (wCB (b1 (dLenO "Row" w_Row_len dLen)) (waCons (wVar 0) waNil)) (wVar 1)) (wC (.int 1))) waNil)) (wgName 2) wYes (wCB (b1 dSum) (waCons (wSl false (wVar 0) (woSome (wVar 2)) (woSome (wOp (dAdd false) (wVar 2) (wVar 1)))) waNil)) [2])) (Φd (eL D.int) fun _ => M) m ∧ m = m_law_sums gains_here_0 length_0 := ⟨_,
    (bj_one (bj_ret (fin := fun a s' => a) (ej_lcM (eo := D.int) (ρt := fun (x_1 : Int) => [some ((eL D.int) gains_here_0), some (D.int length_0), some (D.int x_1)]) (ij_r1 (aj_one (ej_op o_add (ej_op o_sub (ej_cb1 (o_lenQ (e1 := (eL D.int)) (fun _ _ _ h => h) (o_len (e := D.int))) (ej_var (e := (eL D.int)) gains_here_0 rfl)) (fun _ _ => (ej_var (e := D.int) length_0 rfl))) (fun _ _ => ej_int)))) (fun _ _ _ _ h => h) (fun x_1 _ => (ej_cb1 o_sum (ej_sl (e := (eL D.int)) sl_L (ej_var (e := (eL D.int)) gains_here_0 rfl) (fun _ _ => (oj_some (ej_var (e := D.int) x_1 rfl))) (fun _ _ _ _ => (oj_some (ej_op o_add (ej_var (e := D.int) x_1 rfl) (fun _ _ => (ej_var (e := D.int) length_0 rfl))))))))) (fun P a s' h => (fun P h => h.1) P h))), (by unfold m_law_sums; rfl)⟩
  exact key { nx := fun _ M' => k .non M', rt := k } E (by rw [e]; exact h.mono fun r h => Φd.of (e := (eL D.int)) (M := fun _ => M) h)
@[irreducible] noncomputable def m_law_word (told_0 : List Int) : Res Str :=
  (lcF (fun (x_1 : Int) => (decide (x_1 > 0))) (fun (x_1 : Int) => x_1) told_0).bind fun l_6 =>
  (lcF (fun (x_2 : Int) => (decide (x_2 < 0))) (fun (x_2 : Int) => x_2) told_0).bind fun l_7 =>
  let a_5 := ((l_6.length : Int), (l_7.length : Int))
  (if (decide (a_5.1 = (told_0.length : Int))) then
  (Res.ok ("gains" : Str))
  else
  (if (decide (a_5.2 = (told_0.length : Int))) then
  (Res.ok ("loses" : Str))
  else
  (Res.ok (if (decide ((a_5.1 + a_5.2) = 0)) then ("flat" : Str) else ("mixed" : Str)))))
theorem T_law_word (told_0 : List Int) (M : Mem) (k : D → Mem → Prop) (E : XP) (h : (m_law_word told_0).wp fun r => k (D.str r) M) : w_law_word [(eL D.int) told_0] M k E := by
  rw [w_law_word_eq]
  obtain ⟨m, key, e⟩ : ∃ m, BJ (fun _ : Unit => M) [some ((eL D.int) told_0), none, none, none] ()
    (wSeq (wPar 1 2 (waCons (wCB (b1 (dLenO "Row" w_Row_len dLen)) (waCons (wLc false (wiAny (wVar 0)) (wgName 3) (wTest (wOp dGt (wVar 3) (wC (.int 0)))) (wVar 3) [3]) waNil)) (waCons (wCB (b1 (dLenO "Row" w_Row_len dLen)) (waCons (wLc false (wiAny (wVar 0)) (wgName 3) (wTest (wOp dLt (wVar 3) (wC (.int 0)))) (wVar 3) [3]) waNil)) waNil)))
  (wSeq (wIfS (wTest (wOp (dEqO "Row" ["Row"] w_Row_eq dEq) (wVar 1) (wCB (b1 (dLenO "Row" w_Row_len dLen)) (waCons (wVar 0) waNil)))) (wRet (wC (.str "gains"))) wNext)
  (wKill [3] (wSeq (wIfS (wTest (wOp (dEqO "Row" ["Row"] w_Row_eq dEq) (wVar 2) (wCB (b1 (dLenO "Row" w_Row_len dLen)) (waCons (wVar 0) waNil)))) (wRet (wC (.str "loses"))) wNext)
  (wKill [0, 3] (wRet (wIf (wTest (wOp (dEqO "Row" ["Row"] w_Row_eq dEq) (wOp (dAdd false) (wVar 1) (wVar 2)) (wC (.int 0)))) (wC (.str "flat")) (wC (.str "mixed"))))))))) (Φd D.str fun _ => M) m ∧ m = m_law_word told_0 := ⟨_,
    (bj_par (aj_cons (ej_cb1 (o_lenQ (e1 := (eL D.int)) (fun _ _ _ h => h) (o_len (e := D.int))) (ej_lcF (eo := D.int) (ρt := fun (x_1 : Int) => [some ((eL D.int) told_0), none, none, some (D.int x_1)]) (ij_L (ej_var (e := (eL D.int)) told_0 rfl)) (fun _ _ _ _ h => h) (fun x_1 _ => (tj_test (ej_op o_gt (ej_var (e := D.int) x_1 rfl) (fun _ _ => ej_int)))) (fun x_1 _ => (ej_var (e := D.int) x_1 rfl)))) (fun _ _ => (aj_one (ej_cb1 (o_lenQ (e1 := (eL D.int)) (fun _ _ _ h => h) (o_len (e := D.int))) (ej_lcF (eo := D.int) (ρt := fun (x_2 : Int) => [some ((eL D.int) told_0), none, none, some (D.int x_2)]) (ij_L (ej_var (e := (eL D.int)) told_0 rfl)) (fun _ _ _ _ h => h) (fun x_2 _ => (tj_test (ej_op o_lt (ej_var (e := D.int) x_2 rfl) (fun _ _ => ej_int)))) (fun x_2 _ => (ej_var (e := D.int) x_2 rfl))))))) (fun a_5 _ => (bj_rho (ρ2 := [some ((eL D.int) told_0), some (D.int a_5.1), some (D.int a_5.2), none]) rfl (bj_if (tj_test (ej_op (o_eqQ (e1 := D.int) (fun _ _ _ _ h => h) (o_eq (e := D.int) peq_int)) (ej_var (e := D.int) a_5.1 rfl) (fun _ _ => (ej_cb1 (o_lenQ (e1 := (eL D.int)) (fun _ _ _ h => h) (o_len (e := D.int))) (ej_var (e := (eL D.int)) told_0 rfl))))) (fun s_8 => (bj_ret (fin := fun a s' => a) ej_str (fun P a s' h => (fun P h => h.1) P h))) (fun s_8 => (bj_skip (bj_kill (bj_rho (ρ2 := [some ((eL D.int) told_0), some (D.int a_5.1), some (D.int a_5.2), none]) rfl (bj_rho (ρ2 := [some ((eL D.int) told_0), some (D.int a_5.1), some (D.int a_5.2), none]) rfl (bj_if (tj_test (ej_op (o_eqQ (e1 := D.int) (fun _ _ _ _ h => h) (o_eq (e := D.int) peq_int)) (ej_var (e := D.int) a_5.2 rfl) (fun _ _ => (ej_cb1 (o_lenQ (e1 := (eL D.int)) (fun _ _ _ h => h) (o_len (e := D.int))) (ej_var (e := (eL D.int)) told_0 rfl))))) (fun s_9 => (bj_ret (fin := fun a s' => a) ej_str (fun P a s' h => (fun P h => h.1) P h))) (fun s_9 => (bj_skip (bj_kill (bj_rho (ρ2 := [none, some (D.int a_5.1), some (D.int a_5.2), none]) rfl (bj_rho (ρ2 := [none, some (D.int a_5.1), some (D.int a_5.2), none]) rfl (bj_one (bj_ret (fin := fun a s' => a) (ej_ifP (e := D.str) (tj_test (ej_op (o_eqQ (e1 := D.int) (fun _ _ _ _ h => h) (o_eq (e := D.int) peq_int)) (ej_op o_add (ej_var (e := D.int) a_5.1 rfl) (fun _ _ => (ej_var (e := D.int) a_5.2 rfl))) (fun _ _ => ej_int))) (fun _ => ej_str) (fun _ => ej_str)) (fun P a s' h => (fun P h => h.1) P h)))))))))))))))))), (by unfold m_law_word; rfl)⟩
  exact key { nx := fun _ M' => k .non M', rt := k } E (by rw [e]; exact h.mono fun r h => Φd.of (e := D.str) (M := fun _ => M) h)
@[irreducible] noncomputable def m_law_words (gains_here_0 : List Int) : Res (List Str) :=
  (rngR 1 ((gains_here_0.length : Int) + 1)).bind fun r_6 =>
  (lcR (fun (x_1 : Int) => (Res.ok true)) (fun (x_1 : Int) => (m_law_sums gains_here_0 x_1).bind fun r_8 =>
  (m_law_word r_8).bind fun r_9 =>
  (Res.ok r_9)) r_6 []).bind fun l_7 =>
  (Res.ok l_7)
theorem T_law_words (gains_here_0 : List Int) (M : Mem) (k : D → Mem → Prop) (E : XP) (h : (m_law_words gains_here_0).wp fun r => k ((eL D.str) r) M) : w_law_words [(eL D.int) gains_here_0] M k E := by
  rw [w_law_words_eq]
  obtain ⟨m, key, e⟩ : ∃ m, BJ (fun _ : Unit => M) [some ((eL D.int) gains_here_0), none] ()
    (wRet (wLc false (wiR2 (waCons (wC (.int 1)) (waCons (wOp (dAdd false) (wCB (b1 (dLenO "Row" w_Row_len dLen)) (waCons (wVar 0) waNil)) (wC (.int 1))) waNil))) (wgName 1) wYes (wFn 1 0 w_law_word (wcP (waCons (wFn 2 0 w_law_sums (wcP (waCons (wVar 0) (waCons (wVar 1) waNil)))) waNil))) [1])) (Φd (eL D.str) fun _ => M) m ∧ m = m_law_words gains_here_0 := ⟨_,
    (bj_one (bj_ret (fin := fun a s' => a) (ej_lcR (eo := D.str) (ρt := fun (x_1 : Int) => [some ((eL D.int) gains_here_0), some (D.int x_1)]) (fun x_1 s_2 k_3 => k_3 true) (fun x_1 s_2 k_3 => (m_law_sums gains_here_0 x_1).bind fun r_4 =>
  (m_law_word r_4).bind fun r_5 =>
  k_3 r_5) (ij_r2 (aj_cons ej_int (fun _ _ => (aj_one (ej_op o_add (ej_cb1 (o_lenQ (e1 := (eL D.int)) (fun _ _ _ h => h) (o_len (e := D.int))) (ej_var (e := (eL D.int)) gains_here_0 rfl)) (fun _ _ => ej_int)))))) (fun _ _ _ _ h => h) (fun x_1 _ => tj_yes) (fun x_1 _ => (ej_fn (n := 1) (m := 0) (e := D.str) (cj_p (aj_one (ej_fn (n := 2) (m := 0) (e := (eL D.int)) (cj_p (aj_cons (ej_var (e := (eL D.int)) gains_here_0 rfl) (fun _ _ => (aj_one (ej_var (e := D.int) x_1 rfl))))) (fun x => m_law_sums x.1 x.2) (fun _ _ h => h) (fun x M k E h => T_law_sums x.1 x.2 M k E h)))) (fun x => m_law_word x) (fun _ _ h => h) (fun x M k E h => T_law_word x M k E h))) (fun _ _ _ => rfl) (fun _ _ _ => rfl)) (fun P a s' h => (fun P h => h.1) P h))), (by unfold m_law_words; rfl)⟩
  exact key { nx := fun _ M' => k .non M', rt := k } E (by rw [e]; exact h.mono fun r h => Φd.of (e := (eL D.str)) (M := fun _ => M) h)
@[irreducible] noncomputable def m_are_integers_1 (value_0 : List Int) : Res Bool :=
  Res.bind (if true then (lcR (fun (x_1 : Int) => (Res.ok true)) (fun (x_1 : Int) => (m_is_integer x_1).bind fun r_11 =>
  (Res.ok r_11)) value_0 []).bind fun l_10 =>
  (Res.ok (l_10.all id)) else .ok false) fun b_9 =>
  (Res.ok b_9)
theorem T_are_integers_1 (value_0 : List Int) (M : Mem) (k : D → Mem → Prop) (E : XP) (h : (m_are_integers_1 value_0).wp fun r => k (D.bl r) M) : w_are_integers [(eT D.int) value_0] M k E := by
  rw [w_are_integers_eq]
  obtain ⟨m, key, e⟩ : ∃ m, BJ (fun _ : Unit => M) [some ((eT D.int) value_0), none] ()
    (wRet (wAndT (wIsi2 "list" "tuple" (wVar 0)) (wCB (b1 dAll) (waCons (wLc false (wiAny (wVar 0)) (wgName 1) wYes (wFn 1 0 w_is_integer (wcP (waCons (wVar 1) waNil))) [1]) waNil)))) (Φd D.bl fun _ => M) m ∧ m = m_are_integers_1 value_0 := ⟨_,
    (bj_one (bj_ret (fin := fun a s' => a) (ej_andS (fun s_5 k_6 => (lcR (fun (x_1 : Int) => (Res.ok true)) (fun (x_1 : Int) => (m_is_integer x_1).bind fun r_8 =>
  (Res.ok r_8)) value_0 []).bind fun l_7 =>
  k_6 (l_7.all id)) (ej_isi2 (e := (eT D.int)) true (fun _ _ k h => isi_2T (k := k) rfl rfl h) (ej_var (e := (eT D.int)) value_0 rfl)) (fun _ => (ej_cb1 o_all (ej_lcR (eo := D.bl) (ρt := fun (x_1 : Int) => [some ((eT D.int) value_0), some (D.int x_1)]) (fun x_1 s_2 k_3 => k_3 true) (fun x_1 s_2 k_3 => (m_is_integer x_1).bind fun r_4 =>
  k_3 r_4) (ij_T (ej_var (e := (eT D.int)) value_0 rfl)) (fun _ _ _ _ h => h) (fun x_1 _ => tj_yes) (fun x_1 _ => (ej_fn (n := 1) (m := 0) (e := D.bl) (cj_p (aj_one (ej_var (e := D.int) x_1 rfl))) (fun x => m_is_integer x) (fun _ _ h => h) (fun x M k E h => T_is_integer x M k E h))) (fun _ _ _ => rfl) (fun _ _ _ => rfl)))) (fun _ _ => rfl)) (fun P a s' h => (fun P h => h.1) P h))), (by unfold m_are_integers_1; rfl)⟩
  exact key { nx := fun _ M' => k .non M', rt := k } E (by rw [e]; exact h.mono fun r h => Φd.of (e := D.bl) (M := fun _ => M) h)
@[irreducible] noncomputable def m_heights_of_1 (gains_0 : List Int) : Res (List Int) :=
  let s_2 := ((), [0])
  forR (fun (v_6 : Unit) (s_7 : Unit × (List Int)) x_8 =>
  (ixR s_7.2 (-1)).bind fun t_9 =>
  (appR s_7.2 (t_9 + x_8)).bind fun l_10 =>
  let s_11 := (s_7.1, l_10)
  (Res.ok (Flow.nx () s_11)))
  (fun v_12 s_13 =>
  (Res.ok s_13.2)) gains_0 () s_2
theorem T_heights_of_1 (gains_0 : List Int) (M : Mem) (k : D → Mem → Prop) (E : XP) (h : (m_heights_of_1 gains_0).wp fun r => k ((eT D.int) r) M) : w_heights_of [(eT D.int) gains_0] M k E := by
  rw [w_heights_of_eq]
  obtain ⟨m, key, e⟩ : ∃ m, BJ (fun _ : Unit => M) [some ((eT D.int) gains_0), none, none] ()
    (wSeq (wAsg (wLst true (waCons (wC (.int 0)) waNil)) (wgName 1))
  (wSeq (wFor (wiAny (wVar 0)) (wgName 2) (wDrop (wBL dApp (wVar 1) (waCons (wOp (dAdd false) (wOp dIx (wVar 1) (wUn dNeg (wC (.int 1)))) (wVar 2)) waNil))) [0, 2])
  (wRet (wDp [1] (wCB (b1 dTuple) (waCons (wVar 1) waNil)))))) (Φd (eT D.int) fun _ => M) m ∧ m = m_heights_of_1 gains_0 := ⟨_,
    (bj_new (c := (cL D.int)) di_unit (nj_lstL (e := D.int) (lj_cons ej_int (fun _ _ => lj_nil)) (by decide)) (fun _ _ p_found_1 μ_found_1 h_found_1 => (bj_rho (ρ2 := [some ((eT D.int) gains_0), some (D.ref p_found_1), none]) rfl (bj_for (σ := Unit) (ρh := fun v_6 => [none, some (D.ref p_found_1), none]) () (ij_T (ej_var (e := (eT D.int)) gains_0 rfl)) rfl (fun _ _ _ _ _ h => h) (fun v_6 _ x_8 => (bj_one (bj_app h_found_1.ca rfl (ej_op o_add (ej_ixC h_found_1.ca rfl (ej_un o_neg ej_int)) (fun _ _ => (ej_var (e := D.int) x_8 rfl))) (fun _ => (bj_nx (v := ()) rfl))))) (fun v_12 _ => (bj_rho (ρ2 := [none, some (D.ref p_found_1), none]) rfl (bj_one (bj_retD (fin := fun a s' => a) (ej_cb1C (e := (eT D.int)) h_found_1.ca rfl c_tuple) (fun P a s' h => (fun P h => (drop1 h_found_1.cr h.1)) P h))))))))), (by unfold m_heights_of_1; rfl)⟩
  exact key { nx := fun _ M' => k .non M', rt := k } E (by rw [e]; exact h.mono fun r h => Φd.of (e := (eT D.int)) (M := fun _ => M) h)
@[irreducible] noncomputable def m_Row_init_1 (gains_0 : List Int) : Res R_Row_0 :=
  (m_are_integers_1 gains_0).bind fun r_1 =>
  (if ((!r_1) || (decide ((gains_0.length : Int) = 0))) then
  .no
  else
  (if (decide ((gains_0.length : Int) > 48)) then
  .no
  else
  let gains_4 := gains_0
  (m_heights_of_1 gains_0).bind fun r_7 =>
  let heights_6 := r_7
  let days_9 := (gains_0.length : Int)
  (ixR heights_6 (-1)).bind fun t_12 =>
  let total_11 := t_12
  (Res.ok ⟨gains_4, heights_6, days_9, total_11⟩)))
theorem T_Row_init_1 (gains_0 : List Int) (M : Mem) (p_self : Addr) (k : D → Mem → Prop) (E : XP) (hp_self : M p_self = none) (h : (m_Row_init_1 gains_0).wp fun r => k D.non (mu M p_self (Cell.ins "Row" ["gains", "heights", "days", "total"] (f_Row_0 r)))) : w_Row_init [D.ref p_self, (eT D.int) gains_0] (mu M p_self (Cell.ins "Row" [] [])) k E := by
  rw [w_Row_init_eq]
  obtain ⟨m, key, e⟩ : ∃ m, BJ (fun q : Unit => mu M p_self (Cell.ins "Row" [] ((fun _ => []) q))) [some (D.ref p_self), some ((eT D.int) gains_0)] ()
    (wSeq (wIfS (wOr (wNot (wTru (wFn 1 0 w_are_integers (wcP (waCons (wVar 1) waNil))))) (wTest (wOp dEq (wCB (b1 dLen) (waCons (wVar 1) waNil)) (wC (.int 0))))) wNever wNext)
  (wKill [] (wSeq (wIfS (wTest (wOp dGt (wCB (b1 dLen) (waCons (wVar 1) waNil)) (wC (.int (48))))) wNever wNext)
  (wKill [] (wSeq (wSetF ["Row"] "gains" (wVar 0) (wCB (b1 dTuple) (waCons (wVar 1) waNil)))
  (wSeq (wSetF ["Row"] "heights" (wVar 0) (wFn 1 0 w_heights_of (wcP (waCons (wVar 1) waNil))))
  (wSeq (wSetF ["Row"] "days" (wVar 0) (wCB (b1 dLen) (waCons (wVar 1) waNil)))
  (wSetF ["Row"] "total" (wVar 0) (wOp dIx (wFld "heights" (wVar 0)) (wUn dNeg (wC (.int 1)))))))))))) (Φi fun r => (mu M p_self (Cell.ins "Row" ["gains", "heights", "days", "total"] (f_Row_0 r)))) m ∧ m = m_Row_init_1 gains_0 := ⟨_,
    (bj_if (tj_orP (tj_not (tj_tru (β := _) t_bl (ej_fn (n := 1) (m := 0) (e := D.bl) (cj_p (aj_one (ej_var (e := (eT D.int)) gains_0 rfl))) (fun x => m_are_integers_1 x) (fun _ _ h => h) (fun x M k E h => T_are_integers_1 x M k E h)))) (fun _ => (tj_test (ej_op (o_eq (e := D.int) peq_int) (ej_cb1 (o_lenT (e := D.int)) (ej_var (e := (eT D.int)) gains_0 rfl)) (fun _ _ => ej_int))))) (fun s_2 => bj_never) (fun s_2 => (bj_skip (bj_kill (bj_rho (ρ2 := [some (D.ref p_self), some ((eT D.int) gains_0)]) rfl (bj_rho (ρ2 := [some (D.ref p_self), some ((eT D.int) gains_0)]) rfl (bj_if (tj_test (ej_op o_gt (ej_cb1 (o_lenT (e := D.int)) (ej_var (e := (eT D.int)) gains_0 rfl)) (fun _ _ => ej_int))) (fun s_3 => bj_never) (fun s_3 => (bj_skip (bj_kill (bj_rho (ρ2 := [some (D.ref p_self), some ((eT D.int) gains_0)]) rfl (bj_rho (ρ2 := [some (D.ref p_self), some ((eT D.int) gains_0)]) rfl (bj_fset (e := (eT D.int)) rfl (fun _ => rfl) (by decide) (by decide) (by decide) (ej_cb1 (o_tupleT (e := D.int)) (ej_var (e := (eT D.int)) gains_0 rfl)) (fun gains_4 s_5 => (bj_rho (ρ2 := [some (D.ref p_self), some ((eT D.int) gains_0)]) rfl (bj_fset (e := (eT D.int)) rfl (fun _ => rfl) (by decide) (by decide) (by decide) (ej_fn (n := 1) (m := 0) (e := (eT D.int)) (cj_p (aj_one (ej_var (e := (eT D.int)) gains_0 rfl))) (fun x => m_heights_of_1 x) (fun _ _ h => h) (fun x M k E h => T_heights_of_1 x M k E h)) (fun heights_6 s_8 => (bj_rho (ρ2 := [some (D.ref p_self), some ((eT D.int) gains_0)]) rfl (bj_fset (e := D.int) rfl (fun _ => rfl) (by decide) (by decide) (by decide) (ej_cb1 (o_lenT (e := D.int)) (ej_var (e := (eT D.int)) gains_0 rfl)) (fun days_9 s_10 => (bj_rho (ρ2 := [some (D.ref p_self), some ((eT D.int) gains_0)]) rfl (bj_one (bj_fset (e := D.int) rfl (fun _ => rfl) (by decide) (by decide) (by decide) (ej_op (o_ixT (e := D.int)) (ej_fldS (e := (eT D.int)) (fun q => q.1.2) rfl (fun _ => rfl)) (fun _ _ => (ej_un o_neg ej_int))) (fun total_11 s_13 => (bj_end (b := (⟨((s_13, total_11)).1.1.1.2, ((s_13, total_11)).1.1.2, ((s_13, total_11)).1.2, ((s_13, total_11)).2⟩ : R_Row_0)) (fun P h => h.2 _)))))))))))))))))))))))))), (by unfold m_Row_init_1; rfl)⟩
  exact key { nx := fun _ M' => k .non M', rt := k } E (by rw [e]; exact h.mono fun r h => ⟨h, fun _ => h⟩)
@[irreducible] noncomputable def m_Row_backwards (self_0 : R_Row_0) : Res R_Row_0 :=
  (m_Row_init_1 self_0.gains.reverse).bind fun r_1 =>
  (Res.ok r_1)
theorem T_Row_backwards (self_0 : R_Row_0) (M : Mem) (k : D → Mem → Prop) (E : XP) (h : (m_Row_backwards self_0).wp fun r => k (e_Row_0 r) M) : w_Row_backwards [e_Row_0 self_0] M k E := by
  rw [w_Row_backwards_eq]
  obtain ⟨m, key, e⟩ : ∃ m, BJ (fun _ : Unit => M) [some (e_Row_0 self_0)] ()
    (wRet (wNew false "Row" 1 0 w_Row_init (wcP (waCons (wRev false (wFld "gains" (wVar 0))) waNil)))) (Φd e_Row_0 fun _ => M) m ∧ m = m_Row_backwards self_0 := ⟨_,
    (bj_one (bj_ret (fin := fun a s' => a) (ej_new (n := 1) (m := 0) (e := e_Row_0) (fs := f_Row_0) (cj_p (aj_one (ej_revT (ej_fld (e1 := e_Row_0) (e := (eT D.int)) (fun r => r.gains) (fun _ _ _ h => fld rfl h) (ej_var (e := e_Row_0) self_0 rfl))))) (fun x => m_Row_init_1 x) (fun _ => rfl) (fun _ _ h => h) (fun x M p k E hp h => T_Row_init_1 x M p k E hp h)) (fun P a s' h => (fun P h => h.1) P h))), (by unfold m_Row_backwards; rfl)⟩
  exact key { nx := fun _ M' => k .non M', rt := k } E (by rw [e]; exact h.mono fun r h => Φd.of (e := e_Row_0) (M := fun _ => M) h)
@[irreducible] noncomputable def m_need_row (value_0 : R_Row_0) (part_0 : Str) : Res Unit :=
  (Res.ok ())
theorem T_need_row (value_0 : R_Row_0) (part_0 : Str) (M : Mem) (k : D → Mem → Prop) (E : XP) (h : (m_need_row value_0 part_0).wp fun r => k (eN r) M) : w_need_row [e_Row_0 value_0, D.str part_0] M k E := by
  rw [w_need_row_eq]
  obtain ⟨m, key, e⟩ : ∃ m, BJ (fun _ : Unit => M) [some (e_Row_0 value_0), some (D.str part_0)] ()
    (wIfS (wNot (wTru (wCB (dIsi clsT) (waCons (wVar 0) (waCons (wC (.cls "Row")) waNil))))) wNever wNext) (Φd eN fun _ => M) m ∧ m = m_need_row value_0 part_0 := ⟨_,
    (bj_one (bj_if (tj_not (tj_tru (β := _) t_bl (ej_isi (T := clsT) (c := D.cls "Row") (e := e_Row_0) true (fun _ M k h => isi_ooT (k := fun b => k (.bl b) M) rfl rfl h) (ej_var (e := e_Row_0) value_0 rfl)))) (fun _ => bj_no) (fun _ => (bj_skip (bj_end (b := ()) (fun P h => h.2 _ rfl)))))), (by unfold m_need_row; rfl)⟩
  exact key { nx := fun _ M' => k .non M', rt := k } E (by rw [e]; exact h.mono fun r h => Φd.of (e := eN) (M := fun _ => M) h)
@[irreducible] noncomputable def m_sums_in (row_0 : R_Row_0) (length_0 : Int) : Res (List Int) :=
  (lcM (fun (x_1 : Int × Int) => (x_1.2 - x_1.1)) (row_0.heights.zip (cutD row_0.heights (some length_0) none))).bind fun l_2 =>
  (Res.ok l_2)
theorem T_sums_in (row_0 : R_Row_0) (length_0 : Int) (M : Mem) (k : D → Mem → Prop) (E : XP) (h : (m_sums_in row_0 length_0).wp fun r => k ((eT D.int) r) M) : w_sums_in [e_Row_0 row_0, D.int length_0] M k E := by
  rw [w_sums_in_eq]
  obtain ⟨m, key, e⟩ : ∃ m, BJ (fun _ : Unit => M) [some (e_Row_0 row_0), some (D.int length_0), none, none] ()
    (wRet (wCB (b1 dTuple) (waCons (wLc false (wiZip (waCons (wFld "heights" (wVar 0)) (waCons (wSl false (wFld "heights" (wVar 0)) (woSome (wVar 1)) woNone) waNil))) (wgTup 2 (wgCons (wgName 2) (wgCons (wgName 3) wgNil))) wYes (wOp dSub (wVar 3) (wVar 2)) [2, 3]) waNil))) (Φd (eT D.int) fun _ => M) m ∧ m = m_sums_in row_0 length_0 := ⟨_,
    (bj_one (bj_ret (fin := fun a s' => a) (ej_cb1 (o_tuple (e := D.int)) (ej_lcM (eo := D.int) (ρt := fun (x_1 : Int × Int) => [some (e_Row_0 row_0), some (D.int length_0), some (D.int x_1.1), some (D.int x_1.2)]) (ij_zipTT (aj_cons (ej_fld (e1 := e_Row_0) (e := (eT D.int)) (fun r => r.heights) (fun _ _ _ h => fld rfl h) (ej_var (e := e_Row_0) row_0 rfl)) (fun _ _ => (aj_one (ej_sl (e := (eT D.int)) sl_T (ej_fld (e1 := e_Row_0) (e := (eT D.int)) (fun r => r.heights) (fun _ _ _ h => fld rfl h) (ej_var (e := e_Row_0) row_0 rfl)) (fun _ _ => (oj_some (ej_var (e := D.int) length_0 rfl))) (fun _ _ _ _ => oj_none)))))) (fun _ _ _ _ h => h) (fun x_1 _ => (ej_op o_sub (ej_var (e := D.int) x_1.2 rfl) (fun _ _ => (ej_var (e := D.int) x_1.1 rfl)))))) (fun P a s' h => (fun P h => h.1) P h))), (by unfold m_sums_in; rfl)⟩
  exact key { nx := fun _ M' => k .non M', rt := k } E (by rw [e]; exact h.mono fun r h => Φd.of (e := (eT D.int)) (M := fun _ => M) h)
@[irreducible] noncomputable def m_word_of (told_0 : List Int) : Res Str :=
  (minR told_0).bind fun t_1 =>
  (if (decide (t_1 > 0)) then
  (Res.ok "gains")
  else
  (maxR told_0).bind fun t_3 =>
  (if (decide (t_3 < 0)) then
  (Res.ok "loses")
  else
  (minR told_0).bind fun t_8 =>
  Res.bind (if (decide (t_8 = 0)) then (maxR told_0).bind fun t_10 =>
  (Res.ok (decide (t_10 = 0))) else .ok false) fun b_9 =>
  (Res.ok (if b_9 then "flat" else "mixed"))))
theorem T_word_of (told_0 : List Int) (M : Mem) (k : D → Mem → Prop) (E : XP) (h : (m_word_of told_0).wp fun r => k (D.str r) M) : w_word_of [(eT D.int) told_0] M k E := by
  rw [w_word_of_eq]
  obtain ⟨m, key, e⟩ : ∃ m, BJ (fun _ : Unit => M) [some ((eT D.int) told_0)] ()
    (wSeq (wIfS (wTest (wOp dGt (wCB dMinT (waCons (wVar 0) waNil)) (wC (.int 0)))) (wRet (wC (.str "gains"))) wNext)
  (wKill [] (wSeq (wIfS (wTest (wOp dLt (wCB dMaxT (waCons (wVar 0) waNil)) (wC (.int 0)))) (wRet (wC (.str "loses"))) wNext)
  (wKill [] (wRet (wIf (wAnd (wTest (wOp dEq (wCB dMinT (waCons (wVar 0) waNil)) (wC (.int 0)))) (wTest (wOp dEq (wCB dMaxT (waCons (wVar 0) waNil)) (wC (.int 0))))) (wC (.str "flat")) (wC (.str "mixed")))))))) (Φd D.str fun _ => M) m ∧ m = m_word_of told_0 := ⟨_,
    (bj_if (tj_test (ej_op o_gt (ej_cb o_minT (aj_one (ej_var (e := (eT D.int)) told_0 rfl))) (fun _ _ => ej_int))) (fun s_2 => (bj_ret (fin := fun a s' => a) ej_str (fun P a s' h => (fun P h => h.1) P h))) (fun s_2 => (bj_skip (bj_kill (bj_rho (ρ2 := [some ((eT D.int) told_0)]) rfl (bj_rho (ρ2 := [some ((eT D.int) told_0)]) rfl (bj_if (tj_test (ej_op o_lt (ej_cb o_maxT (aj_one (ej_var (e := (eT D.int)) told_0 rfl))) (fun _ _ => ej_int))) (fun s_4 => (bj_ret (fin := fun a s' => a) ej_str (fun P a s' h => (fun P h => h.1) P h))) (fun s_4 => (bj_skip (bj_kill (bj_rho (ρ2 := [some ((eT D.int) told_0)]) rfl (bj_rho (ρ2 := [some ((eT D.int) told_0)]) rfl (bj_one (bj_ret (fin := fun a s' => a) (ej_ifP (e := D.str) (tj_andS (fun s_5 k_6 => (maxR told_0).bind fun t_7 =>
  k_6 (decide (t_7 = 0))) (tj_test (ej_op (o_eq (e := D.int) peq_int) (ej_cb o_minT (aj_one (ej_var (e := (eT D.int)) told_0 rfl))) (fun _ _ => ej_int))) (fun _ => (tj_test (ej_op (o_eq (e := D.int) peq_int) (ej_cb o_maxT (aj_one (ej_var (e := (eT D.int)) told_0 rfl))) (fun _ _ => ej_int)))) (fun _ _ => rfl)) (fun _ => ej_str) (fun _ => ej_str)) (fun P a s' h => (fun P h => h.1) P h))))))))))))))), (by unfold m_word_of; rfl)⟩
  exact key { nx := fun _ M' => k .non M', rt := k } E (by rw [e]; exact h.mono fun r h => Φd.of (e := D.str) (M := fun _ => M) h)
@[irreducible] noncomputable def m_table_words (row_0 : R_Row_0) : Res (List Str) :=
  (m_need_row row_0 ("row" : Str)).bind fun r_1 =>
  (rngR 1 (row_0.days + 1)).bind fun r_7 =>
  (lcR (fun (x_2 : Int) => (Res.ok true)) (fun (x_2 : Int) => (m_sums_in row_0 x_2).bind fun r_9 =>
  (m_word_of r_9).bind fun r_10 =>
  (Res.ok r_10)) r_7 []).bind fun l_8 =>
  (Res.ok l_8)
theorem T_table_words (row_0 : R_Row_0) (M : Mem) (k : D → Mem → Prop) (E : XP) (h : (m_table_words row_0).wp fun r => k ((eT D.str) r) M) : w_table_words [e_Row_0 row_0] M k E := by
  rw [w_table_words_eq]
  obtain ⟨m, key, e⟩ : ∃ m, BJ (fun _ : Unit => M) [some (e_Row_0 row_0), none] ()
    (wSeq (wDrop (wFn 2 0 w_need_row (wcP (waCons (wVar 0) (waCons (wC (.str "row")) waNil)))))
  (wRet (wCB (b1 dTuple) (waCons (wLc false (wiR2 (waCons (wC (.int 1)) (waCons (wOp (dAdd false) (wFld "days" (wVar 0)) (wC (.int 1))) waNil))) (wgName 1) wYes (wFn 1 0 w_word_of (wcP (waCons (wFn 2 0 w_sums_in (wcP (waCons (wVar 0) (waCons (wVar 1) waNil)))) waNil))) [1]) waNil)))) (Φd (eT D.str) fun _ => M) m ∧ m = m_table_words row_0 := ⟨_,
    (bj_drop (ej_fn (n := 2) (m := 0) (e := eN) (cj_p (aj_cons (ej_var (e := e_Row_0) row_0 rfl) (fun _ _ => (aj_one ej_str)))) (fun x => m_need_row x.1 x.2) (fun _ _ h => h) (fun x M k E h => T_need_row x.1 x.2 M k E h)) (fun _ _ => (bj_rho (ρ2 := [some (e_Row_0 row_0), none]) rfl (bj_one (bj_ret (fin := fun a s' => a) (ej_cb1 (o_tuple (e := D.str)) (ej_lcR (eo := D.str) (ρt := fun (x_2 : Int) => [some (e_Row_0 row_0), some (D.int x_2)]) (fun x_2 s_3 k_4 => k_4 true) (fun x_2 s_3 k_4 => (m_sums_in row_0 x_2).bind fun r_5 =>
  (m_word_of r_5).bind fun r_6 =>
  k_4 r_6) (ij_r2 (aj_cons ej_int (fun _ _ => (aj_one (ej_op o_add (ej_fld (e1 := e_Row_0) (e := D.int) (fun r => r.days) (fun _ _ _ h => fld rfl h) (ej_var (e := e_Row_0) row_0 rfl)) (fun _ _ => ej_int)))))) (fun _ _ _ _ h => h) (fun x_2 _ => tj_yes) (fun x_2 _ => (ej_fn (n := 1) (m := 0) (e := D.str) (cj_p (aj_one (ej_fn (n := 2) (m := 0) (e := (eT D.int)) (cj_p (aj_cons (ej_var (e := e_Row_0) row_0 rfl) (fun _ _ => (aj_one (ej_var (e := D.int) x_2 rfl))))) (fun x => m_sums_in x.1 x.2) (fun _ _ h => h) (fun x M k E h => T_sums_in x.1 x.2 M k E h)))) (fun x => m_word_of x) (fun _ _ h => h) (fun x M k E h => T_word_of x M k E h))) (fun _ _ _ => rfl) (fun _ _ _ => rfl))) (fun P a s' h => (fun P h => h.1) P h)))))), (by unfold m_table_words; rfl)⟩
  exact key { nx := fun _ M' => k .non M', rt := k } E (by rw [e]; exact h.mono fun r h => Φd.of (e := (eT D.str)) (M := fun _ => M) h)
@[irreducible] noncomputable def m_is_within (value_0 : Int) (least_0 : Int) (most_0 : Int) : Res Bool :=
  (m_is_integer value_0).bind fun r_1 =>
  (if (!r_1) then
  (Res.ok false)
  else
  (Res.ok ((decide (least_0 ≤ value_0)) && (decide (value_0 ≤ most_0)))))
theorem T_is_within (value_0 : Int) (least_0 : Int) (most_0 : Int) (M : Mem) (k : D → Mem → Prop) (E : XP) (h : (m_is_within value_0 least_0 most_0).wp fun r => k (D.bl r) M) : w_is_within [D.int value_0, D.int least_0, D.int most_0] M k E := by
  rw [w_is_within_eq]
  obtain ⟨m, key, e⟩ : ∃ m, BJ (fun _ : Unit => M) [some (D.int value_0), some (D.int least_0), some (D.int most_0)] ()
    (wSeq (wIfS (wNot (wTru (wFn 1 0 w_is_integer (wcP (waCons (wVar 0) waNil))))) (wRet (wC (.bl false))) wNext)
  (wKill [] (wRet (wAndT (wOrT (wOp dIs (wVar 1) (wC .non)) (wOp dLe (wVar 1) (wVar 0))) (wOrT (wOp dIs (wVar 2) (wC .non)) (wOp dLe (wVar 0) (wVar 2))))))) (Φd D.bl fun _ => M) m ∧ m = m_is_within value_0 least_0 most_0 := ⟨_,
    (bj_if (tj_not (tj_tru (β := _) t_bl (ej_fn (n := 1) (m := 0) (e := D.bl) (cj_p (aj_one (ej_var (e := D.int) value_0 rfl))) (fun x => m_is_integer x) (fun _ _ h => h) (fun x M k E h => T_is_integer x M k E h)))) (fun s_2 => (bj_ret (fin := fun a s' => a) ej_bl (fun P a s' h => (fun P h => h.1) P h))) (fun s_2 => (bj_skip (bj_kill (bj_rho (ρ2 := [some (D.int value_0), some (D.int least_0), some (D.int most_0)]) rfl (bj_rho (ρ2 := [some (D.int value_0), some (D.int least_0), some (D.int most_0)]) rfl (bj_one (bj_ret (fin := fun a s' => a) (ej_andP (ej_orP (ej_op (o_isF (fun _ => rfl)) (ej_var (e := D.int) least_0 rfl) (fun _ _ => ej_non)) (fun _ => (ej_op o_le (ej_var (e := D.int) least_0 rfl) (fun _ _ => (ej_var (e := D.int) value_0 rfl))))) (fun _ => (ej_orP (ej_op (o_isF (fun _ => rfl)) (ej_var (e := D.int) most_0 rfl) (fun _ _ => ej_non)) (fun _ => (ej_op o_le (ej_var (e := D.int) value_0 rfl) (fun _ _ => (ej_var (e := D.int) most_0 rfl))))))) (fun P a s' h => (fun P h => h.1) P h))))))))), (by unfold m_is_within; rfl)⟩
  exact key { nx := fun _ M' => k .non M', rt := k } E (by rw [e]; exact h.mono fun r h => Φd.of (e := D.bl) (M := fun _ => M) h)
@[irreducible] noncomputable def m_need_number (value_0 : Int) (part_0 : Str) (least_0 : Int) (most_0 : Int) : Res Unit :=
  (m_is_within value_0 least_0 most_0).bind fun r_1 =>
  (if (!r_1) then
  .no
  else
  (Res.ok ()))
theorem T_need_number (value_0 : Int) (part_0 : Str) (least_0 : Int) (most_0 : Int) (M : Mem) (k : D → Mem → Prop) (E : XP) (h : (m_need_number value_0 part_0 least_0 most_0).wp fun r => k (eN r) M) : w_need_number [D.int value_0, D.str part_0, D.int least_0, D.int most_0] M k E := by
  rw [w_need_number_eq]
  obtain ⟨m, key, e⟩ : ∃ m, BJ (fun _ : Unit => M) [some (D.int value_0), some (D.str part_0), some (D.int least_0), some (D.int most_0)] ()
    (wIfS (wNot (wTru (wFn 3 0 w_is_within (wcP (waCons (wVar 0) (waCons (wVar 2) (waCons (wVar 3) waNil))))))) wNever wNext) (Φd eN fun _ => M) m ∧ m = m_need_number value_0 part_0 least_0 most_0 := ⟨_,
    (bj_one (bj_if (tj_not (tj_tru (β := _) t_bl (ej_fn (n := 3) (m := 0) (e := D.bl) (cj_p (aj_cons (ej_var (e := D.int) value_0 rfl) (fun _ _ => (aj_cons (ej_var (e := D.int) least_0 rfl) (fun _ _ => (aj_one (ej_var (e := D.int) most_0 rfl))))))) (fun x => m_is_within x.1 x.2.1 x.2.2) (fun _ _ h => h) (fun x M k E h => T_is_within x.1 x.2.1 x.2.2 M k E h)))) (fun s_2 => bj_never) (fun s_2 => (bj_skip (bj_end (b := ()) (fun P h => h.2 _ rfl)))))), (by unfold m_need_number; rfl)⟩
  exact key { nx := fun _ M' => k .non M', rt := k } E (by rw [e]; exact h.mono fun r h => Φd.of (e := eN) (M := fun _ => M) h)
@[irreducible] noncomputable def m_need_length (row_0 : R_Row_0) (length_0 : Int) : Res Unit :=
  (m_need_row row_0 ("row" : Str)).bind fun r_1 =>
  (m_need_number length_0 ("length" : Str) 1 row_0.days).bind fun r_2 =>
  (Res.ok ())
theorem T_need_length (row_0 : R_Row_0) (length_0 : Int) (M : Mem) (k : D → Mem → Prop) (E : XP) (h : (m_need_length row_0 length_0).wp fun r => k (eN r) M) : w_need_length [e_Row_0 row_0, D.int length_0] M k E := by
  rw [w_need_length_eq]
  obtain ⟨m, key, e⟩ : ∃ m, BJ (fun _ : Unit => M) [some (e_Row_0 row_0), some (D.int length_0)] ()
    (wSeq (wDrop (wFn 2 0 w_need_row (wcP (waCons (wVar 0) (waCons (wC (.str "row")) waNil)))))
  (wDrop (wFn 4 0 w_need_number (wcP (waCons (wVar 1) (waCons (wC (.str "length")) (waCons (wC (.int 1)) (waCons (wFld "days" (wVar 0)) waNil)))))))) (Φd eN fun _ => M) m ∧ m = m_need_length row_0 length_0 := ⟨_,
    (bj_drop (ej_fn (n := 2) (m := 0) (e := eN) (cj_p (aj_cons (ej_var (e := e_Row_0) row_0 rfl) (fun _ _ => (aj_one ej_str)))) (fun x => m_need_row x.1 x.2) (fun _ _ h => h) (fun x M k E h => T_need_row x.1 x.2 M k E h)) (fun _ _ => (bj_rho (ρ2 := [some (e_Row_0 row_0), some (D.int length_0)]) rfl (bj_one (bj_drop (ej_fn (n := 4) (m := 0) (e := eN) (cj_p (aj_cons (ej_var (e := D.int) length_0 rfl) (fun _ _ => (aj_cons ej_str (fun _ _ => (aj_cons ej_int (fun _ _ => (aj_one (ej_fld (e1 := e_Row_0) (e := D.int) (fun r => r.days) (fun _ _ _ h => fld rfl h) (ej_var (e := e_Row_0) row_0 rfl)))))))))) (fun x => m_need_number x.1 x.2.1 x.2.2.1 x.2.2.2) (fun _ _ h => h) (fun x M k E h => T_need_number x.1 x.2.1 x.2.2.1 x.2.2.2 M k E h)) (fun _ _ => (bj_end (b := ()) (fun P h => h.2 _ rfl)))))))), (by unfold m_need_length; rfl)⟩
  exact key { nx := fun _ M' => k .non M', rt := k } E (by rw [e]; exact h.mono fun r h => Φd.of (e := eN) (M := fun _ => M) h)
@[irreducible] noncomputable def m_sums (row_0 : R_Row_0) (length_0 : Int) : Res (List Int) :=
  (m_need_length row_0 length_0).bind fun r_1 =>
  (m_sums_in row_0 length_0).bind fun r_2 =>
  (Res.ok r_2)
theorem T_sums (row_0 : R_Row_0) (length_0 : Int) (M : Mem) (k : D → Mem → Prop) (E : XP) (h : (m_sums row_0 length_0).wp fun r => k ((eT D.int) r) M) : w_sums [e_Row_0 row_0, D.int length_0] M k E := by
  rw [w_sums_eq]
  obtain ⟨m, key, e⟩ : ∃ m, BJ (fun _ : Unit => M) [some (e_Row_0 row_0), some (D.int length_0)] ()
    (wSeq (wDrop (wFn 2 0 w_need_length (wcP (waCons (wVar 0) (waCons (wVar 1) waNil)))))
  (wRet (wFn 2 0 w_sums_in (wcP (waCons (wVar 0) (waCons (wVar 1) waNil)))))) (Φd (eT D.int) fun _ => M) m ∧ m = m_sums row_0 length_0 := ⟨_,
    (bj_drop (ej_fn (n := 2) (m := 0) (e := eN) (cj_p (aj_cons (ej_var (e := e_Row_0) row_0 rfl) (fun _ _ => (aj_one (ej_var (e := D.int) length_0 rfl))))) (fun x => m_need_length x.1 x.2) (fun _ _ h => h) (fun x M k E h => T_need_length x.1 x.2 M k E h)) (fun _ _ => (bj_rho (ρ2 := [some (e_Row_0 row_0), some (D.int length_0)]) rfl (bj_one (bj_ret (fin := fun a s' => a) (ej_fn (n := 2) (m := 0) (e := (eT D.int)) (cj_p (aj_cons (ej_var (e := e_Row_0) row_0 rfl) (fun _ _ => (aj_one (ej_var (e := D.int) length_0 rfl))))) (fun x => m_sums_in x.1 x.2) (fun _ _ h => h) (fun x M k E h => T_sums_in x.1 x.2 M k E h)) (fun P a s' h => (fun P h => h.1) P h)))))), (by unfold m_sums; rfl)⟩
  exact key { nx := fun _ M' => k .non M', rt := k } E (by rw [e]; exact h.mono fun r h => Φd.of (e := (eT D.int)) (M := fun _ => M) h)
@[irreducible] noncomputable def m_is_within_1 (value_0 : Int) (least_0 : Unit) (most_0 : Unit) : Res Bool :=
  (m_is_integer value_0).bind fun r_1 =>
  (if (!r_1) then
  (Res.ok false)
  else
  (Res.ok true))
theorem T_is_within_1 (value_0 : Int) (least_0 : Unit) (most_0 : Unit) (M : Mem) (k : D → Mem → Prop) (E : XP) (h : (m_is_within_1 value_0 least_0 most_0).wp fun r => k (D.bl r) M) : w_is_within [D.int value_0, eN least_0, eN most_0] M k E := by
  rw [w_is_within_eq]
  obtain ⟨m, key, e⟩ : ∃ m, BJ (fun _ : Unit => M) [some (D.int value_0), some (eN least_0), some (eN most_0)] ()
    (wSeq (wIfS (wNot (wTru (wFn 1 0 w_is_integer (wcP (waCons (wVar 0) waNil))))) (wRet (wC (.bl false))) wNext)
  (wKill [] (wRet (wAndT (wOrT (wOp dIs (wVar 1) (wC .non)) (wOp dLe (wVar 1) (wVar 0))) (wOrT (wOp dIs (wVar 2) (wC .non)) (wOp dLe (wVar 0) (wVar 2))))))) (Φd D.bl fun _ => M) m ∧ m = m_is_within_1 value_0 least_0 most_0 := ⟨_,
    (bj_if (tj_not (tj_tru (β := _) t_bl (ej_fn (n := 1) (m := 0) (e := D.bl) (cj_p (aj_one (ej_var (e := D.int) value_0 rfl))) (fun x => m_is_integer x) (fun _ _ h => h) (fun x M k E h => T_is_integer x M k E h)))) (fun s_2 => (bj_ret (fin := fun a s' => a) ej_bl (fun P a s' h => (fun P h => h.1) P h))) (fun s_2 => (bj_skip (bj_kill (bj_rho (ρ2 := [some (D.int value_0), some (eN least_0), some (eN most_0)]) rfl (bj_rho (ρ2 := [some (D.int value_0), some (eN least_0), some (eN most_0)]) rfl (bj_one (bj_ret (fin := fun a s' => a) (ej_andP (ej_orS (fun _ _ => .no) (ej_op o_isN (ej_var (e := eN) least_0 rfl) (fun _ _ => ej_non)) (fun _ => ej_no) (fun _ _ => rfl)) (fun _ => (ej_orS (fun _ _ => .no) (ej_op o_isN (ej_var (e := eN) most_0 rfl) (fun _ _ => ej_non)) (fun _ => ej_no) (fun _ _ => rfl)))) (fun P a s' h => (fun P h => h.1) P h))))))))), (by unfold m_is_within_1; rfl)⟩
  exact key { nx := fun _ M' => k .non M', rt := k } E (by rw [e]; exact h.mono fun r h => Φd.of (e := D.bl) (M := fun _ => M) h)
@[irreducible] noncomputable def m_need_number_1 (value_0 : Int) (part_0 : Str) (least_0 : Unit) (most_0 : Unit) : Res Unit :=
  (m_is_within_1 value_0 least_0 most_0).bind fun r_1 =>
  (if (!r_1) then
  .no
  else
  (Res.ok ()))
theorem T_need_number_1 (value_0 : Int) (part_0 : Str) (least_0 : Unit) (most_0 : Unit) (M : Mem) (k : D → Mem → Prop) (E : XP) (h : (m_need_number_1 value_0 part_0 least_0 most_0).wp fun r => k (eN r) M) : w_need_number [D.int value_0, D.str part_0, eN least_0, eN most_0] M k E := by
  rw [w_need_number_eq]
  obtain ⟨m, key, e⟩ : ∃ m, BJ (fun _ : Unit => M) [some (D.int value_0), some (D.str part_0), some (eN least_0), some (eN most_0)] ()
    (wIfS (wNot (wTru (wFn 3 0 w_is_within (wcP (waCons (wVar 0) (waCons (wVar 2) (waCons (wVar 3) waNil))))))) wNever wNext) (Φd eN fun _ => M) m ∧ m = m_need_number_1 value_0 part_0 least_0 most_0 := ⟨_,
    (bj_one (bj_if (tj_not (tj_tru (β := _) t_bl (ej_fn (n := 3) (m := 0) (e := D.bl) (cj_p (aj_cons (ej_var (e := D.int) value_0 rfl) (fun _ _ => (aj_cons (ej_var (e := eN) least_0 rfl) (fun _ _ => (aj_one (ej_var (e := eN) most_0 rfl))))))) (fun x => m_is_within_1 x.1 x.2.1 x.2.2) (fun _ _ h => h) (fun x M k E h => T_is_within_1 x.1 x.2.1 x.2.2 M k E h)))) (fun s_2 => bj_never) (fun s_2 => (bj_skip (bj_end (b := ()) (fun P h => h.2 _ rfl)))))), (by unfold m_need_number_1; rfl)⟩
  exact key { nx := fun _ M' => k .non M', rt := k } E (by rw [e]; exact h.mono fun r h => Φd.of (e := eN) (M := fun _ => M) h)
@[irreducible] noncomputable def m_Row_times (self_0 : R_Row_0) (number_0 : Int) : Res R_Row_0 :=
  (m_need_number_1 number_0 ("number" : Str) () ()).bind fun r_1 =>
  (lcR (fun (x_2 : Int) => (Res.ok true)) (fun (x_2 : Int) => (mulR number_0 x_2).bind fun t_7 =>
  (Res.ok t_7)) self_0.gains []).bind fun l_6 =>
  (m_Row_init l_6).bind fun r_8 =>
  (Res.ok r_8)
theorem T_Row_times (self_0 : R_Row_0) (number_0 : Int) (M : Mem) (k : D → Mem → Prop) (E : XP) (h : (m_Row_times self_0 number_0).wp fun r => k (e_Row_0 r) M) : w_Row_times [e_Row_0 self_0, D.int number_0] M k E := by
  rw [w_Row_times_eq]
  obtain ⟨m, key, e⟩ : ∃ m, BJ (fun _ : Unit => M) [some (e_Row_0 self_0), some (D.int number_0), none] ()
    (wSeq (wDrop (wFn 4 0 w_need_number (wcP (waCons (wVar 1) (waCons (wC (.str "number")) (waCons (wC .non) (waCons (wC .non) waNil)))))))
  (wRet (wNew false "Row" 1 0 w_Row_init (wcP (waCons (wLc false (wiAny (wFld "gains" (wVar 0))) (wgName 2) wYes (wOp (dMulT false) (wVar 1) (wVar 2)) [2]) waNil))))) (Φd e_Row_0 fun _ => M) m ∧ m = m_Row_times self_0 number_0 := ⟨_,
    (bj_drop (ej_fn (n := 4) (m := 0) (e := eN) (cj_p (aj_cons (ej_var (e := D.int) number_0 rfl) (fun _ _ => (aj_cons ej_str (fun _ _ => (aj_cons ej_non (fun _ _ => (aj_one ej_non)))))))) (fun x => m_need_number_1 x.1 x.2.1 x.2.2.1 x.2.2.2) (fun _ _ h => h) (fun x M k E h => T_need_number_1 x.1 x.2.1 x.2.2.1 x.2.2.2 M k E h)) (fun _ _ => (bj_rho (ρ2 := [some (e_Row_0 self_0), some (D.int number_0), none]) rfl (bj_one (bj_ret (fin := fun a s' => a) (ej_new (n := 1) (m := 0) (e := e_Row_0) (fs := f_Row_0) (cj_p (aj_one (ej_lcR (eo := D.int) (ρt := fun (x_2 : Int) => [some (e_Row_0 self_0), some (D.int number_0), some (D.int x_2)]) (fun x_2 s_3 k_4 => k_4 true) (fun x_2 s_3 k_4 => (mulR number_0 x_2).bind fun t_5 =>
  k_4 t_5) (ij_T (ej_fld (e1 := e_Row_0) (e := (eT D.int)) (fun r => r.gains) (fun _ _ _ h => fld rfl h) (ej_var (e := e_Row_0) self_0 rfl))) (fun _ _ _ _ h => h) (fun x_2 _ => tj_yes) (fun x_2 _ => (ej_op o_mul (ej_var (e := D.int) number_0 rfl) (fun _ _ => (ej_var (e := D.int) x_2 rfl)))) (fun _ _ _ => rfl) (fun _ _ _ => rfl)))) (fun x => m_Row_init x) (fun _ => rfl) (fun _ _ h => h) (fun x M p k E hp h => T_Row_init x M p k E hp h)) (fun P a s' h => (fun P h => h.1) P h)))))), (by unfold m_Row_times; rfl)⟩
  exact key { nx := fun _ M' => k .non M', rt := k } E (by rw [e]; exact h.mono fun r h => Φd.of (e := e_Row_0) (M := fun _ => M) h)
@[irreducible] noncomputable def m_Row_plus (self_0 : R_Row_0) (number_0 : Int) : Res R_Row_0 :=
  (m_need_number_1 number_0 ("number" : Str) () ()).bind fun r_1 =>
  (lcM (fun (x_2 : Int) => (x_2 + number_0)) self_0.gains).bind fun l_3 =>
  (m_Row_init l_3).bind fun r_4 =>
  (Res.ok r_4)
theorem T_Row_plus (self_0 : R_Row_0) (number_0 : Int) (M : Mem) (k : D → Mem → Prop) (E : XP) (h : (m_Row_plus self_0 number_0).wp fun r => k (e_Row_0 r) M) : w_Row_plus [e_Row_0 self_0, D.int number_0] M k E := by
  rw [w_Row_plus_eq]
  obtain ⟨m, key, e⟩ : ∃ m, BJ (fun _ : Unit => M) [some (e_Row_0 self_0), some (D.int number_0), none] ()
    (wSeq (wDrop (wFn 4 0 w_need_number (wcP (waCons (wVar 1) (waCons (wC (.str "number")) (waCons (wC .non) (waCons (wC .non) waNil)))))))
  (wRet (wNew false "Row" 1 0 w_Row_init (wcP (waCons (wLc false (wiAny (wFld "gains" (wVar 0))) (wgName 2) wYes (wOp (dAdd false) (wVar 2) (wVar 1)) [2]) waNil))))) (Φd e_Row_0 fun _ => M) m ∧ m = m_Row_plus self_0 number_0 := ⟨_,
    (bj_drop (ej_fn (n := 4) (m := 0) (e := eN) (cj_p (aj_cons (ej_var (e := D.int) number_0 rfl) (fun _ _ => (aj_cons ej_str (fun _ _ => (aj_cons ej_non (fun _ _ => (aj_one ej_non)))))))) (fun x => m_need_number_1 x.1 x.2.1 x.2.2.1 x.2.2.2) (fun _ _ h => h) (fun x M k E h => T_need_number_1 x.1 x.2.1 x.2.2.1 x.2.2.2 M k E h)) (fun _ _ => (bj_rho (ρ2 := [some (e_Row_0 self_0), some (D.int number_0), none]) rfl (bj_one (bj_ret (fin := fun a s' => a) (ej_new (n := 1) (m := 0) (e := e_Row_0) (fs := f_Row_0) (cj_p (aj_one (ej_lcM (eo := D.int) (ρt := fun (x_2 : Int) => [some (e_Row_0 self_0), some (D.int number_0), some (D.int x_2)]) (ij_T (ej_fld (e1 := e_Row_0) (e := (eT D.int)) (fun r => r.gains) (fun _ _ _ h => fld rfl h) (ej_var (e := e_Row_0) self_0 rfl))) (fun _ _ _ _ h => h) (fun x_2 _ => (ej_op o_add (ej_var (e := D.int) x_2 rfl) (fun _ _ => (ej_var (e := D.int) number_0 rfl))))))) (fun x => m_Row_init x) (fun _ => rfl) (fun _ _ h => h) (fun x M p k E hp h => T_Row_init x M p k E hp h)) (fun P a s' h => (fun P h => h.1) P h)))))), (by unfold m_Row_plus; rfl)⟩
  exact key { nx := fun _ M' => k .non M', rt := k } E (by rw [e]; exact h.mono fun r h => Φd.of (e := e_Row_0) (M := fun _ => M) h)
@[irreducible] noncomputable def m_law_alone_right (t_base : (List Int) × Int × Int) (gains_here_0 : List Int) : Res (Bool × ((List Int) × Int × Int)) :=
  (m_Row_init gains_here_0).bind fun r_5 =>
  (m_law_words gains_here_0).bind fun r_6 =>
  let a_4 := (r_5, r_6, (gains_here_0.length : Int))
  (lcR (fun (x_7 : Str) => (Res.ok true)) (fun (x_7 : Str) => (dgR [("gains", "loses"), ("loses", "gains")] x_7 x_7).bind fun t_13 =>
  (Res.ok t_13)) a_4.2.1 []).bind fun l_12 =>
  let turned_11 := l_12
  (pwR 10 9).bind fun t_16 =>
  (m_law_any t_base [0, 1, 6, t_16]).bind fun r_17 =>
  (m_law_drip r_17.2 a_4.2.2).bind fun r_18 =>
  let a_15 := ((1 + r_17.1), (1 + r_18.1))
  (m_Row_backwards a_4.1).bind fun r_24 =>
  (m_table_words r_24).bind fun r_25 =>
  (eqR (okL okS) r_25 a_4.2.1).bind fun t_26 =>
  Res.bind (if (!t_26) then .ok true else (m_Row_backwards a_4.1).bind fun r_28 =>
  (m_sums r_28 a_15.2).bind fun r_29 =>
  (m_law_sums gains_here_0 a_15.2).bind fun r_30 =>
  (Res.ok (!(decide (r_29 = r_30.reverse))))) fun b_27 =>
  (if b_27 then
  (Res.ok (false, r_18.2))
  else
  (m_Row_times a_4.1 a_15.1).bind fun r_48 =>
  (m_table_words r_48).bind fun r_49 =>
  (eqR (okL okS) r_49 a_4.2.1).bind fun t_50 =>
  Res.bind (if (!t_50) then .ok true else (m_Row_times a_4.1 (-a_15.1)).bind fun r_52 =>
  (m_table_words r_52).bind fun r_53 =>
  (eqR (okL okS) r_53 turned_11).bind fun t_54 =>
  Res.bind (if (!t_54) then .ok true else (m_Row_times a_4.1 0).bind fun r_56 =>
  (m_table_words r_56).bind fun r_57 =>
  (repTR [("flat" : Str)] a_4.2.2).bind fun t_58 =>
  (eqR (okL okS) r_57 t_58).bind fun t_59 =>
  (Res.ok (!t_59))) fun b_55 =>
  (Res.ok b_55)) fun b_51 =>
  (if b_51 then
  (Res.ok (false, r_18.2))
  else
  (m_law_any r_18.2 [1, (-1), 4, (-3)]).bind fun r_62 =>
  let more_61 := r_62.1
  (m_Row_plus a_4.1 more_61).bind fun r_68 =>
  (m_sums r_68 a_15.2).bind fun r_69 =>
  (m_law_sums gains_here_0 a_15.2).bind fun r_70 =>
  (lcR (fun (x_64 : Int) => (Res.ok true)) (fun (x_64 : Int) => (mulR a_15.2 more_61).bind fun t_72 =>
  (Res.ok (x_64 + t_72))) r_70 []).bind fun l_71 =>
  (if (!(decide (r_69 = l_71))) then
  (Res.ok (false, r_62.2))
  else
  (lcM (fun (x_74 : Int) => (x_74.natAbs : Int)) gains_here_0).bind fun l_76 =>
  (maxR l_76).bind fun t_77 =>
  let great_75 := (1 + t_77)
  (m_Row_plus a_4.1 great_75).bind fun r_85 =>
  (m_table_words r_85).bind fun r_86 =>
  (repTR [("gains" : Str)] a_4.2.2).bind fun t_87 =>
  (eqR (okL okS) r_86 t_87).bind fun t_88 =>
  Res.bind (if t_88 then (m_Row_plus a_4.1 (-great_75)).bind fun r_90 =>
  (m_table_words r_90).bind fun r_91 =>
  (repTR [("loses" : Str)] a_4.2.2).bind fun t_92 =>
  (eqR (okL okS) r_91 t_92).bind fun t_93 =>
  (Res.ok t_93) else .ok false) fun b_89 =>
  (Res.ok (b_89, r_62.2)))))
theorem T_law_alone_right (t_base : (List Int) × Int × Int) (gains_here_0 : List Int) (M : Mem) (p_base : Addr) (k : D → Mem → Prop) (E : XP) (hp_base : M p_base = none) (h : (m_law_alone_right t_base gains_here_0).wp fun r => k (D.bl r.1) (mu M p_base ((cL3 (eL D.int) D.int D.int) r.2))) : w_law_alone_right [D.ref p_base, (eL D.int) gains_here_0] (mu M p_base ((cL3 (eL D.int) D.int D.int) t_base)) k E := by
  rw [w_law_alone_right_eq]
  obtain ⟨m, key, e⟩ : ∃ m, BJ (fun t => mu M p_base ((cL3 (eL D.int) D.int D.int) t)) [some (D.ref p_base), some ((eL D.int) gains_here_0), none, none, none, none, none, none, none, none, none, none, none] t_base
    (wSeq (wPar3 2 3 4 (waCons (wNew false "Row" 1 0 w_Row_init (wcP (waCons (wVar 1) waNil))) (waCons (wFn 1 0 w_law_words (wcP (waCons (wVar 1) waNil))) (waCons (wCB (b1 (dLenO "Row" w_Row_len dLen)) (waCons (wVar 1) waNil)) waNil))))
  (wSeq (wAsg (wLc false (wiAny (wVar 3)) (wgName 10) wYes (wDG [("gains", "loses"), ("loses", "gains")] (wVar 10) (wVar 10)) [10]) (wgName 5))
  (wSeq (wAsg (wTup (waCons (wOp (dAdd false) (wC (.int 1)) (wFn 2 0 w_law_any (wcP (waCons (wVar 0) (waCons (wLst false (waCons (wC (.int 0)) (waCons (wC (.int 1)) (waCons (wC (.int 6)) (waCons (wOp dPw (wC (.int 10)) (wC (.int 9))) waNil))))) waNil))))) (waCons (wOp (dAdd false) (wC (.int 1)) (wFn 2 0 w_law_drip (wcP (waCons (wVar 0) (waCons (wVar 4) waNil))))) waNil))) (wgTup 2 (wgCons (wgName 6) (wgCons (wgName 7) wgNil))))
  (wSeq (wIfS (wOr (wTest (wOp (dNeO "Row" ["Row"] w_Row_eq dNe) (wCB (b1 (dList false)) (waCons (wFn 1 0 w_table_words (wcP (waCons (wMt "Row" "backwards" 0 0 w_Row_backwards (wVar 2) (wcP waNil)) waNil))) waNil)) (wVar 3))) (wTest (wOp (dNeO "Row" ["Row"] w_Row_eq dNe) (wFn 2 0 w_sums (wcP (waCons (wMt "Row" "backwards" 0 0 w_Row_backwards (wVar 2) (wcP waNil)) (waCons (wVar 7) waNil)))) (wCB (b1 dTuple) (waCons (wRev false (wFn 2 0 w_law_sums (wcP (waCons (wVar 1) (waCons (wVar 7) waNil))))) waNil))))) (wRet (wC (.bl false))) wNext)
  (wKill [8, 9, 10, 11, 12] (wSeq (wIfS (wOr (wTest (wOp (dNeO "Row" ["Row"] w_Row_eq dNe) (wCB (b1 (dList false)) (waCons (wFn 1 0 w_table_words (wcP (waCons (wMt "Row" "times" 1 0 w_Row_times (wVar 2) (wcP (waCons (wVar 6) waNil))) waNil))) waNil)) (wVar 3))) (wOr (wTest (wOp (dNeO "Row" ["Row"] w_Row_eq dNe) (wCB (b1 (dList false)) (waCons (wFn 1 0 w_table_words (wcP (waCons (wMt "Row" "times" 1 0 w_Row_times (wVar 2) (wcP (waCons (wUn dNeg (wVar 6)) waNil))) waNil))) waNil)) (wVar 5))) (wTest (wOp (dNeO "Row" ["Row"] w_Row_eq dNe) (wFn 1 0 w_table_words (wcP (waCons (wMt "Row" "times" 1 0 w_Row_times (wVar 2) (wcP (waCons (wC (.int 0)) waNil))) waNil))) (wOp (dMulT false) (wTup (waCons (wC (.str "flat")) waNil)) (wVar 4)))))) (wRet (wC (.bl false))) wNext)
  (wKill [3, 5, 6, 8, 9, 10, 11, 12] (wSeq (wAsg (wFn 2 0 w_law_any (wcP (waCons (wVar 0) (waCons (wLst false (waCons (wC (.int 1)) (waCons (wUn dNeg (wC (.int 1))) (waCons (wC (.int 4)) (waCons (wUn dNeg (wC (.int 3))) waNil))))) waNil)))) (wgName 8))
  (wSeq (wIfS (wTest (wOp (dNeO "Row" ["Row"] w_Row_eq dNe) (wFn 2 0 w_sums (wcP (waCons (wMt "Row" "plus" 1 0 w_Row_plus (wVar 2) (wcP (waCons (wVar 8) waNil))) (waCons (wVar 7) waNil)))) (wCB (b1 dTuple) (waCons (wLc false (wiAny (wFn 2 0 w_law_sums (wcP (waCons (wVar 1) (waCons (wVar 7) waNil))))) (wgName 11) wYes (wOp (dAdd false) (wVar 11) (wOp (dMulT false) (wVar 7) (wVar 8))) [11]) waNil)))) (wRet (wC (.bl false))) wNext)
  (wKill [3, 5, 6, 7, 8, 9, 10, 11, 12] (wSeq (wAsg (wOp (dAdd false) (wC (.int 1)) (wCB dMaxT (waCons (wLc false (wiAny (wVar 1)) (wgName 12) wYes (wCB (b1 dAbs) (waCons (wVar 12) waNil)) [12]) waNil))) (wgName 9))
  (wRet (wAndT (wOp (dEqO "Row" ["Row"] w_Row_eq dEq) (wFn 1 0 w_table_words (wcP (waCons (wMt "Row" "plus" 1 0 w_Row_plus (wVar 2) (wcP (waCons (wVar 9) waNil))) waNil))) (wOp (dMulT false) (wTup (waCons (wC (.str "gains")) waNil)) (wVar 4))) (wOp (dEqO "Row" ["Row"] w_Row_eq dEq) (wFn 1 0 w_table_words (wcP (waCons (wMt "Row" "plus" 1 0 w_Row_plus (wVar 2) (wcP (waCons (wUn dNeg (wVar 9)) waNil))) waNil))) (wOp (dMulT false) (wTup (waCons (wC (.str "loses")) waNil)) (wVar 4)))))))))))))))) (Φd (fun r : Bool × ((List Int) × Int × Int) => D.bl r.1) fun r => mu M p_base ((cL3 (eL D.int) D.int D.int) r.2)) m ∧ m = m_law_alone_right t_base gains_here_0 := ⟨_,
    (bj_par3 (aj_cons (ej_new (n := 1) (m := 0) (e := e_Row_0) (fs := f_Row_0) (cj_p (aj_one (ej_var (e := (eL D.int)) gains_here_0 rfl))) (fun x => m_Row_init x) (fun _ => rfl) (fun _ _ h => h) (fun x M p k E hp h => T_Row_init x M p k E hp h)) (fun _ _ => (aj_cons (ej_fn (n := 1) (m := 0) (e := (eL D.str)) (cj_p (aj_one (ej_var (e := (eL D.int)) gains_here_0 rfl))) (fun x => m_law_words x) (fun _ _ h => h) (fun x M k E h => T_law_words x M k E h)) (fun _ _ => (aj_one (ej_cb1 (o_lenQ (e1 := (eL D.int)) (fun _ _ _ h => h) (o_len (e := D.int))) (ej_var (e := (eL D.int)) gains_here_0 rfl))))))) (fun a_4 _ => (bj_rho (ρ2 := [some (D.ref p_base), some ((eL D.int) gains_here_0), some (e_Row_0 a_4.1), some ((eL D.str) a_4.2.1), some (D.int a_4.2.2), none, none, none, none, none, none, none, none]) rfl (bj_asg (e := (eL D.str)) (ej_lcR (eo := D.str) (ρt := fun (x_7 : Str) => [some (D.ref p_base), some ((eL D.int) gains_here_0), some (e_Row_0 a_4.1), some ((eL D.str) a_4.2.1), some (D.int a_4.2.2), none, none, none, none, none, some (D.str x_7), none, none]) (fun x_7 s_8 k_9 => k_9 true) (fun x_7 s_8 k_9 => (dgR [("gains", "loses"), ("loses", "gains")] x_7 x_7).bind fun t_10 =>
  k_9 t_10) (ij_L (ej_var (e := (eL D.str)) a_4.2.1 rfl)) (fun _ _ _ _ h => h) (fun x_7 _ => tj_yes) (fun x_7 _ => (ej_dg (l := [("gains", "loses"), ("loses", "gains")]) (ej_var (e := D.str) x_7 rfl) (fun _ _ => (ej_var (e := D.str) x_7 rfl)))) (fun _ _ _ => rfl) (fun _ _ _ => rfl)) (fun turned_11 s_14 => (bj_rho (ρ2 := [some (D.ref p_base), some ((eL D.int) gains_here_0), some (e_Row_0 a_4.1), some ((eL D.str) a_4.2.1), some (D.int a_4.2.2), some ((eL D.str) turned_11), none, none, none, none, none, none, none]) rfl (bj_asgG (e := (eT2 D.int D.int)) (ej_tup (e := (eT2 D.int D.int)) (aj_cons (ej_op o_add ej_int (fun _ _ => (ej_fnM (n := 2) (m := 0) (e := D.int) (cj_p (aj_cons (ej_cell rfl) (fun _ _ => (aj_one (ej_lstL (e := D.int) (lj_cons ej_int (fun _ _ => (lj_cons ej_int (fun _ _ => (lj_cons ej_int (fun _ _ => (lj_cons (ej_op o_pw ej_int (fun _ _ => ej_int)) (fun _ _ => lj_nil)))))))) (by decide)))))) (fun x t => m_law_any t x.2) (ca_base hp_base) (fun _ _ h => h) (fun x N t k E hp h => T_law_any t x.2 N _ k E hp h)))) (fun _ _ => (aj_one (ej_op o_add ej_int (fun _ _ => (ej_fnM (n := 2) (m := 0) (e := D.int) (cj_p (aj_cons (ej_cell rfl) (fun _ _ => (aj_one (ej_var (e := D.int) a_4.2.2 rfl))))) (fun x t => m_law_drip t x.2) (ca_base hp_base) (fun _ _ h => h) (fun x N t k E hp h => T_law_drip t x.2 N _ k E hp h))))))) (fun _ => Nat.le_of_ble_eq_true rfl) (fun _ => rfl)) (fun _ _ _ _ h => h) (fun a_15 _ => (bj_rho (ρ2 := [some (D.ref p_base), some ((eL D.int) gains_here_0), some (e_Row_0 a_4.1), some ((eL D.str) a_4.2.1), some (D.int a_4.2.2), some ((eL D.str) turned_11), some (D.int a_15.1), some (D.int a_15.2), none, none, none, none, none]) rfl (bj_if (tj_orS (fun s_19 k_20 => (m_Row_backwards a_4.1).bind fun r_21 =>
  (m_sums r_21 a_15.2).bind fun r_22 =>
  (m_law_sums gains_here_0 a_15.2).bind fun r_23 =>
  k_20 (!(decide (r_22 = r_23.reverse)))) (tj_test (ej_op (o_neQ (e1 := (eL D.str)) (fun _ _ _ _ h => h) (o_neG (e := (eL D.str)) (pg_L pg_str) (by decide) (fun _ _ _ _ h => h))) (ej_cb1 (o_listT (e := D.str)) (ej_fn (n := 1) (m := 0) (e := (eT D.str)) (cj_p (aj_one (ej_mt (c := "Row") (nm := "backwards") (n := 0) (m := 0) (e0 := e_Row_0) (e := e_Row_0) (ej_var (e := e_Row_0) a_4.1 rfl) (fun _ _ => (cj_p aj_nil)) (fun o x => m_Row_backwards o ) (fun _ _ _ h => mt_d rfl h) (fun _ _ h => h) (fun o x M k E h => T_Row_backwards o  M k E h)))) (fun x => m_table_words x) (fun _ _ h => h) (fun x M k E h => T_table_words x M k E h))) (fun _ _ => (ej_var (e := (eL D.str)) a_4.2.1 rfl)))) (fun _ => (tj_test (ej_op (o_neQ (e1 := (eT D.int)) (fun _ _ _ _ h => h) (o_ne (e := (eT D.int)) (peq_of (pd_T pd_int) (by decide) (fun _ _ _ _ h => h)))) (ej_fn (n := 2) (m := 0) (e := (eT D.int)) (cj_p (aj_cons (ej_mt (c := "Row") (nm := "backwards") (n := 0) (m := 0) (e0 := e_Row_0) (e := e_Row_0) (ej_var (e := e_Row_0) a_4.1 rfl) (fun _ _ => (cj_p aj_nil)) (fun o x => m_Row_backwards o ) (fun _ _ _ h => mt_d rfl h) (fun _ _ h => h) (fun o x M k E h => T_Row_backwards o  M k E h)) (fun _ _ => (aj_one (ej_var (e := D.int) a_15.2 rfl))))) (fun x => m_sums x.1 x.2) (fun _ _ h => h) (fun x M k E h => T_sums x.1 x.2 M k E h)) (fun _ _ => (ej_cb1 (o_tuple (e := D.int)) (ej_revL (ej_fn (n := 2) (m := 0) (e := (eL D.int)) (cj_p (aj_cons (ej_var (e := (eL D.int)) gains_here_0 rfl) (fun _ _ => (aj_one (ej_var (e := D.int) a_15.2 rfl))))) (fun x => m_law_sums x.1 x.2) (fun _ _ h => h) (fun x M k E h => T_law_sums x.1 x.2 M k E h)))))))) (fun _ _ => rfl)) (fun s_31 => (bj_ret (fin := fun a s' => (a, s')) ej_bl (fun P a s' h => (fun P h => h.1) P h))) (fun s_31 => (bj_skip (bj_kill (bj_rho (ρ2 := [some (D.ref p_base), some ((eL D.int) gains_here_0), some (e_Row_0 a_4.1), some ((eL D.str) a_4.2.1), some (D.int a_4.2.2), some ((eL D.str) turned_11), some (D.int a_15.1), some (D.int a_15.2), none, none, none, none, none]) rfl (bj_rho (ρ2 := [some (D.ref p_base), some ((eL D.int) gains_here_0), some (e_Row_0 a_4.1), some ((eL D.str) a_4.2.1), some (D.int a_4.2.2), some ((eL D.str) turned_11), some (D.int a_15.1), some (D.int a_15.2), none, none, none, none, none]) rfl (bj_if (tj_orS (fun s_38 k_39 => (m_Row_times a_4.1 (-a_15.1)).bind fun r_40 =>
  (m_table_words r_40).bind fun r_41 =>
  (eqR (okL okS) r_41 turned_11).bind fun t_42 =>
  Res.bind (if (!t_42) then .ok true else (m_Row_times a_4.1 0).bind fun r_44 =>
  (m_table_words r_44).bind fun r_45 =>
  (repTR [("flat" : Str)] a_4.2.2).bind fun t_46 =>
  (eqR (okL okS) r_45 t_46).bind fun t_47 =>
  (Res.ok (!t_47))) fun b_43 =>
  k_39 b_43) (tj_test (ej_op (o_neQ (e1 := (eL D.str)) (fun _ _ _ _ h => h) (o_neG (e := (eL D.str)) (pg_L pg_str) (by decide) (fun _ _ _ _ h => h))) (ej_cb1 (o_listT (e := D.str)) (ej_fn (n := 1) (m := 0) (e := (eT D.str)) (cj_p (aj_one (ej_mt (c := "Row") (nm := "times") (n := 1) (m := 0) (e0 := e_Row_0) (e := e_Row_0) (ej_var (e := e_Row_0) a_4.1 rfl) (fun _ _ => (cj_p (aj_one (ej_var (e := D.int) a_15.1 rfl)))) (fun o x => m_Row_times o x) (fun _ _ _ h => mt_d rfl h) (fun _ _ h => h) (fun o x M k E h => T_Row_times o x M k E h)))) (fun x => m_table_words x) (fun _ _ h => h) (fun x M k E h => T_table_words x M k E h))) (fun _ _ => (ej_var (e := (eL D.str)) a_4.2.1 rfl)))) (fun _ => (tj_orS (fun s_32 k_33 => (m_Row_times a_4.1 0).bind fun r_34 =>
  (m_table_words r_34).bind fun r_35 =>
  (repTR [("flat" : Str)] a_4.2.2).bind fun t_36 =>
  (eqR (okL okS) r_35 t_36).bind fun t_37 =>
  k_33 (!t_37)) (tj_test (ej_op (o_neQ (e1 := (eL D.str)) (fun _ _ _ _ h => h) (o_neG (e := (eL D.str)) (pg_L pg_str) (by decide) (fun _ _ _ _ h => h))) (ej_cb1 (o_listT (e := D.str)) (ej_fn (n := 1) (m := 0) (e := (eT D.str)) (cj_p (aj_one (ej_mt (c := "Row") (nm := "times") (n := 1) (m := 0) (e0 := e_Row_0) (e := e_Row_0) (ej_var (e := e_Row_0) a_4.1 rfl) (fun _ _ => (cj_p (aj_one (ej_un o_neg (ej_var (e := D.int) a_15.1 rfl))))) (fun o x => m_Row_times o x) (fun _ _ _ h => mt_d rfl h) (fun _ _ h => h) (fun o x M k E h => T_Row_times o x M k E h)))) (fun x => m_table_words x) (fun _ _ h => h) (fun x M k E h => T_table_words x M k E h))) (fun _ _ => (ej_var (e := (eL D.str)) turned_11 rfl)))) (fun _ => (tj_test (ej_op (o_neQ (e1 := (eT D.str)) (fun _ _ _ _ h => h) (o_neG (e := (eT D.str)) (pg_T pg_str) (by decide) (fun _ _ _ _ h => h))) (ej_fn (n := 1) (m := 0) (e := (eT D.str)) (cj_p (aj_one (ej_mt (c := "Row") (nm := "times") (n := 1) (m := 0) (e0 := e_Row_0) (e := e_Row_0) (ej_var (e := e_Row_0) a_4.1 rfl) (fun _ _ => (cj_p (aj_one ej_int))) (fun o x => m_Row_times o x) (fun _ _ _ h => mt_d rfl h) (fun _ _ h => h) (fun o x M k E h => T_Row_times o x M k E h)))) (fun x => m_table_words x) (fun _ _ h => h) (fun x M k E h => T_table_words x M k E h)) (fun _ _ => (ej_op o_repT (ej_as (e' := (eT D.str)) (fun a : Str => [a]) (ej_tup (e := (fun x : Str => D.tup [D.str x])) (aj_one ej_str) (fun _ => Nat.le_of_ble_eq_true rfl) (fun _ => rfl)) (fun a => rfl)) (fun _ _ => (ej_var (e := D.int) a_4.2.2 rfl))))))) (fun _ _ => rfl))) (fun _ _ => rfl)) (fun s_60 => (bj_ret (fin := fun a s' => (a, s')) ej_bl (fun P a s' h => (fun P h => h.1) P h))) (fun s_60 => (bj_skip (bj_kill (bj_rho (ρ2 := [some (D.ref p_base), some ((eL D.int) gains_here_0), some (e_Row_0 a_4.1), none, some (D.int a_4.2.2), none, none, some (D.int a_15.2), none, none, none, none, none]) rfl (bj_rho (ρ2 := [some (D.ref p_base), some ((eL D.int) gains_here_0), some (e_Row_0 a_4.1), none, some (D.int a_4.2.2), none, none, some (D.int a_15.2), none, none, none, none, none]) rfl (bj_asg (e := D.int) (ej_fnM (n := 2) (m := 0) (e := D.int) (cj_p (aj_cons (ej_cell rfl) (fun _ _ => (aj_one (ej_lstL (e := D.int) (lj_cons ej_int (fun _ _ => (lj_cons (ej_un o_neg ej_int) (fun _ _ => (lj_cons ej_int (fun _ _ => (lj_cons (ej_un o_neg ej_int) (fun _ _ => lj_nil)))))))) (by decide)))))) (fun x t => m_law_any t x.2) (ca_base hp_base) (fun _ _ h => h) (fun x N t k E hp h => T_law_any t x.2 N _ k E hp h)) (fun more_61 s_63 => (bj_rho (ρ2 := [some (D.ref p_base), some ((eL D.int) gains_here_0), some (e_Row_0 a_4.1), none, some (D.int a_4.2.2), none, none, some (D.int a_15.2), some (D.int more_61), none, none, none, none]) rfl (bj_if (tj_test (ej_op (o_neQ (e1 := (eT D.int)) (fun _ _ _ _ h => h) (o_ne (e := (eT D.int)) (peq_of (pd_T pd_int) (by decide) (fun _ _ _ _ h => h)))) (ej_fn (n := 2) (m := 0) (e := (eT D.int)) (cj_p (aj_cons (ej_mt (c := "Row") (nm := "plus") (n := 1) (m := 0) (e0 := e_Row_0) (e := e_Row_0) (ej_var (e := e_Row_0) a_4.1 rfl) (fun _ _ => (cj_p (aj_one (ej_var (e := D.int) more_61 rfl)))) (fun o x => m_Row_plus o x) (fun _ _ _ h => mt_d rfl h) (fun _ _ h => h) (fun o x M k E h => T_Row_plus o x M k E h)) (fun _ _ => (aj_one (ej_var (e := D.int) a_15.2 rfl))))) (fun x => m_sums x.1 x.2) (fun _ _ h => h) (fun x M k E h => T_sums x.1 x.2 M k E h)) (fun _ _ => (ej_cb1 (o_tuple (e := D.int)) (ej_lcR (eo := D.int) (ρt := fun (x_64 : Int) => [some (D.ref p_base), some ((eL D.int) gains_here_0), some (e_Row_0 a_4.1), none, some (D.int a_4.2.2), none, none, some (D.int a_15.2), some (D.int more_61), none, none, some (D.int x_64), none]) (fun x_64 s_65 k_66 => k_66 true) (fun x_64 s_65 k_66 => (mulR a_15.2 more_61).bind fun t_67 =>
  k_66 (x_64 + t_67)) (ij_L (ej_fn (n := 2) (m := 0) (e := (eL D.int)) (cj_p (aj_cons (ej_var (e := (eL D.int)) gains_here_0 rfl) (fun _ _ => (aj_one (ej_var (e := D.int) a_15.2 rfl))))) (fun x => m_law_sums x.1 x.2) (fun _ _ h => h) (fun x M k E h => T_law_sums x.1 x.2 M k E h))) (fun _ _ _ _ h => h) (fun x_64 _ => tj_yes) (fun x_64 _ => (ej_op o_add (ej_var (e := D.int) x_64 rfl) (fun _ _ => (ej_op o_mul (ej_var (e := D.int) a_15.2 rfl) (fun _ _ => (ej_var (e := D.int) more_61 rfl)))))) (fun _ _ _ => rfl) (fun _ _ _ => rfl)))))) (fun s_73 => (bj_ret (fin := fun a s' => (a, s')) ej_bl (fun P a s' h => (fun P h => h.1) P h))) (fun s_73 => (bj_skip (bj_kill (bj_rho (ρ2 := [some (D.ref p_base), some ((eL D.int) gains_here_0), some (e_Row_0 a_4.1), none, some (D.int a_4.2.2), none, none, none, none, none, none, none, none]) rfl (bj_rho (ρ2 := [some (D.ref p_base), some ((eL D.int) gains_here_0), some (e_Row_0 a_4.1), none, some (D.int a_4.2.2), none, none, none, none, none, none, none, none]) rfl (bj_asg (e := D.int) (ej_op o_add ej_int (fun _ _ => (ej_cb o_maxL (aj_one (ej_lcM (eo := D.int) (ρt := fun (x_74 : Int) => [some (D.ref p_base), some ((eL D.int) gains_here_0), some (e_Row_0 a_4.1), none, some (D.int a_4.2.2), none, none, none, none, none, none, none, some (D.int x_74)]) (ij_L (ej_var (e := (eL D.int)) gains_here_0 rfl)) (fun _ _ _ _ h => h) (fun x_74 _ => (ej_cb1 o_abs (ej_var (e := D.int) x_74 rfl)))))))) (fun great_75 s_78 => (bj_rho (ρ2 := [some (D.ref p_base), some ((eL D.int) gains_here_0), some (e_Row_0 a_4.1), none, some (D.int a_4.2.2), none, none, none, none, some (D.int great_75), none, none, none]) rfl (bj_one (bj_ret (fin := fun a s' => (a, s')) (ej_andS (fun s_79 k_80 => (m_Row_plus a_4.1 (-great_75)).bind fun r_81 =>
  (m_table_words r_81).bind fun r_82 =>
  (repTR [("loses" : Str)] a_4.2.2).bind fun t_83 =>
  (eqR (okL okS) r_82 t_83).bind fun t_84 =>
  k_80 t_84) (ej_op (o_eqQ (e1 := (eT D.str)) (fun _ _ _ _ h => h) (o_eqG (e := (eT D.str)) (pg_T pg_str) (by decide) (fun _ _ _ _ h => h))) (ej_fn (n := 1) (m := 0) (e := (eT D.str)) (cj_p (aj_one (ej_mt (c := "Row") (nm := "plus") (n := 1) (m := 0) (e0 := e_Row_0) (e := e_Row_0) (ej_var (e := e_Row_0) a_4.1 rfl) (fun _ _ => (cj_p (aj_one (ej_var (e := D.int) great_75 rfl)))) (fun o x => m_Row_plus o x) (fun _ _ _ h => mt_d rfl h) (fun _ _ h => h) (fun o x M k E h => T_Row_plus o x M k E h)))) (fun x => m_table_words x) (fun _ _ h => h) (fun x M k E h => T_table_words x M k E h)) (fun _ _ => (ej_op o_repT (ej_as (e' := (eT D.str)) (fun a : Str => [a]) (ej_tup (e := (fun x : Str => D.tup [D.str x])) (aj_one ej_str) (fun _ => Nat.le_of_ble_eq_true rfl) (fun _ => rfl)) (fun a => rfl)) (fun _ _ => (ej_var (e := D.int) a_4.2.2 rfl))))) (fun _ => (ej_op (o_eqQ (e1 := (eT D.str)) (fun _ _ _ _ h => h) (o_eqG (e := (eT D.str)) (pg_T pg_str) (by decide) (fun _ _ _ _ h => h))) (ej_fn (n := 1) (m := 0) (e := (eT D.str)) (cj_p (aj_one (ej_mt (c := "Row") (nm := "plus") (n := 1) (m := 0) (e0 := e_Row_0) (e := e_Row_0) (ej_var (e := e_Row_0) a_4.1 rfl) (fun _ _ => (cj_p (aj_one (ej_un o_neg (ej_var (e := D.int) great_75 rfl))))) (fun o x => m_Row_plus o x) (fun _ _ _ h => mt_d rfl h) (fun _ _ h => h) (fun o x M k E h => T_Row_plus o x M k E h)))) (fun x => m_table_words x) (fun _ _ h => h) (fun x M k E h => T_table_words x M k E h)) (fun _ _ => (ej_op o_repT (ej_as (e' := (eT D.str)) (fun a : Str => [a]) (ej_tup (e := (fun x : Str => D.tup [D.str x])) (aj_one ej_str) (fun _ => Nat.le_of_ble_eq_true rfl) (fun _ => rfl)) (fun a => rfl)) (fun _ _ => (ej_var (e := D.int) a_4.2.2 rfl)))))) (fun _ _ => rfl)) (fun P a s' h => (fun P h => h.1) P h)))))))))))))))))))))))))))))))))))), (by unfold m_law_alone_right; rfl)⟩
  exact key { nx := fun _ M' => k .non M', rt := k } E (by rw [e]; exact h.mono fun r h => Φd.of (e := fun r : Bool × ((List Int) × Int × Int) => D.bl r.1) (M := fun r => mu M p_base ((cL3 (eL D.int) D.int D.int) r.2)) h)
@[irreducible] noncomputable def m_Row_added (self_0 : R_Row_0) (other_0 : R_Row_0) : Res R_Row_0 :=
  (m_need_row other_0 ("other" : Str)).bind fun r_1 =>
  (if (!(decide (other_0.days = self_0.days))) then
  .no
  else
  (lcM (fun (x_3 : Int × Int) => (x_3.1 + x_3.2)) (self_0.gains.zip other_0.gains)).bind fun l_4 =>
  (m_Row_init l_4).bind fun r_5 =>
  (Res.ok r_5))
theorem T_Row_added (self_0 : R_Row_0) (other_0 : R_Row_0) (M : Mem) (k : D → Mem → Prop) (E : XP) (h : (m_Row_added self_0 other_0).wp fun r => k (e_Row_0 r) M) : w_Row_added [e_Row_0 self_0, e_Row_0 other_0] M k E := by
  rw [w_Row_added_eq]
  obtain ⟨m, key, e⟩ : ∃ m, BJ (fun _ : Unit => M) [some (e_Row_0 self_0), some (e_Row_0 other_0), none, none] ()
    (wSeq (wDrop (wFn 2 0 w_need_row (wcP (waCons (wVar 1) (waCons (wC (.str "other")) waNil)))))
  (wSeq (wIfS (wTest (wOp dNe (wFld "days" (wVar 1)) (wFld "days" (wVar 0)))) wNever wNext)
  (wKill [2, 3] (wRet (wNew false "Row" 1 0 w_Row_init (wcP (waCons (wLc false (wiZip (waCons (wFld "gains" (wVar 0)) (waCons (wFld "gains" (wVar 1)) waNil))) (wgTup 2 (wgCons (wgName 2) (wgCons (wgName 3) wgNil))) wYes (wOp (dAdd false) (wVar 2) (wVar 3)) [2, 3]) waNil))))))) (Φd e_Row_0 fun _ => M) m ∧ m = m_Row_added self_0 other_0 := ⟨_,
    (bj_drop (ej_fn (n := 2) (m := 0) (e := eN) (cj_p (aj_cons (ej_var (e := e_Row_0) other_0 rfl) (fun _ _ => (aj_one ej_str)))) (fun x => m_need_row x.1 x.2) (fun _ _ h => h) (fun x M k E h => T_need_row x.1 x.2 M k E h)) (fun _ _ => (bj_rho (ρ2 := [some (e_Row_0 self_0), some (e_Row_0 other_0), none, none]) rfl (bj_if (tj_test (ej_op (o_ne (e := D.int) peq_int) (ej_fld (e1 := e_Row_0) (e := D.int) (fun r => r.days) (fun _ _ _ h => fld rfl h) (ej_var (e := e_Row_0) other_0 rfl)) (fun _ _ => (ej_fld (e1 := e_Row_0) (e := D.int) (fun r => r.days) (fun _ _ _ h => fld rfl h) (ej_var (e := e_Row_0) self_0 rfl))))) (fun s_2 => bj_never) (fun s_2 => (bj_skip (bj_kill (bj_rho (ρ2 := [some (e_Row_0 self_0), some (e_Row_0 other_0), none, none]) rfl (bj_rho (ρ2 := [some (e_Row_0 self_0), some (e_Row_0 other_0), none, none]) rfl (bj_one (bj_ret (fin := fun a s' => a) (ej_new (n := 1) (m := 0) (e := e_Row_0) (fs := f_Row_0) (cj_p (aj_one (ej_lcM (eo := D.int) (ρt := fun (x_3 : Int × Int) => [some (e_Row_0 self_0), some (e_Row_0 other_0), some (D.int x_3.1), some (D.int x_3.2)]) (ij_zipTT (aj_cons (ej_fld (e1 := e_Row_0) (e := (eT D.int)) (fun r => r.gains) (fun _ _ _ h => fld rfl h) (ej_var (e := e_Row_0) self_0 rfl)) (fun _ _ => (aj_one (ej_fld (e1 := e_Row_0) (e := (eT D.int)) (fun r => r.gains) (fun _ _ _ h => fld rfl h) (ej_var (e := e_Row_0) other_0 rfl)))))) (fun _ _ _ _ h => h) (fun x_3 _ => (ej_op o_add (ej_var (e := D.int) x_3.1 rfl) (fun _ _ => (ej_var (e := D.int) x_3.2 rfl))))))) (fun x => m_Row_init x) (fun _ => rfl) (fun _ _ h => h) (fun x M p k E hp h => T_Row_init x M p k E hp h)) (fun P a s' h => (fun P h => h.1) P h)))))))))))), (by unfold m_Row_added; rfl)⟩
  exact key { nx := fun _ M' => k .non M', rt := k } E (by rw [e]; exact h.mono fun r h => Φd.of (e := e_Row_0) (M := fun _ => M) h)
@[irreducible] noncomputable def m_law_added_right (gains_here_0 : List Int) (others_0 : List Int) : Res Bool :=
  (m_Row_init gains_here_0).bind fun r_5 =>
  (m_Row_init others_0).bind fun r_6 =>
  (m_Row_added r_5 r_6).bind fun r_7 =>
  (m_law_words gains_here_0).bind fun r_8 =>
  (m_law_words others_0).bind fun r_9 =>
  let a_4 := (r_7, r_8, r_9)
  (m_table_words a_4.1).bind fun r_11 =>
  let told_10 := r_11
  (lcM (fun (x_13 : Int × Int) => (x_13.1 + x_13.2)) (gains_here_0.zip others_0)).bind fun l_14 =>
  (m_law_words l_14).bind fun r_15 =>
  (eqR (okL okS) told_10 r_15).bind fun t_16 =>
  (if (!t_16) then
  (Res.ok false)
  else
  forR (fun (v_45 : Unit) (s_46 : Unit) x_47 =>
  (ixR a_4.2.1 x_47.1).bind fun t_49 =>
  (ixR a_4.2.2 x_47.1).bind fun t_50 =>
  let pair_48 := [t_49, t_50]
  (ixR pair_48 0).bind fun t_60 =>
  (ixR pair_48 1).bind fun t_61 =>
  Res.bind (if (decide (t_60 = t_61)) then (ixR pair_48 0).bind fun t_63 =>
  Res.bind (if (!(decide (t_63 = ("mixed" : Str)))) then (ixR pair_48 0).bind fun t_65 =>
  (Res.ok (!(decide (x_47.2 = t_65)))) else .ok false) fun b_64 =>
  (Res.ok b_64) else .ok false) fun b_62 =>
  (if b_62 then
  (Res.ok (Flow.rt false))
  else
  Res.bind (if (decide (("flat" : Str) ∈ pair_48)) then (idxSR pair_48 ("flat" : Str)).bind fun t_72 =>
  (ixR pair_48 (1 - t_72)).bind fun t_73 =>
  (Res.ok (!(decide (x_47.2 = t_73)))) else .ok false) fun b_71 =>
  (if b_71 then
  (Res.ok (Flow.rt false))
  else
  (Res.ok (Flow.nx () s_46)))))
  (fun v_75 s_76 =>
  (Res.ok true)) (enumT 0 told_10) () ())
theorem T_law_added_right (gains_here_0 : List Int) (others_0 : List Int) (M : Mem) (k : D → Mem → Prop) (E : XP) (h : (m_law_added_right gains_here_0 others_0).wp fun r => k (D.bl r) M) : w_law_added_right [(eL D.int) gains_here_0, (eL D.int) others_0] M k E := by
  rw [w_law_added_right_eq]
  obtain ⟨m, key, e⟩ : ∃ m, BJ (fun _ : Unit => M) [some ((eL D.int) gains_here_0), some ((eL D.int) others_0), none, none, none, none, none, none, none, none, none] ()
    (wSeq (wPar3 2 3 4 (waCons (wMt "Row" "added" 1 0 w_Row_added (wNew false "Row" 1 0 w_Row_init (wcP (waCons (wVar 0) waNil))) (wcP (waCons (wNew false "Row" 1 0 w_Row_init (wcP (waCons (wVar 1) waNil))) waNil))) (waCons (wFn 1 0 w_law_words (wcP (waCons (wVar 0) waNil))) (waCons (wFn 1 0 w_law_words (wcP (waCons (wVar 1) waNil))) waNil))))
  (wSeq (wAsg (wFn 1 0 w_table_words (wcP (waCons (wVar 2) waNil))) (wgName 5))
  (wSeq (wIfS (wTest (wOp (dNeO "Row" ["Row"] w_Row_eq dNe) (wCB (b1 (dList false)) (waCons (wVar 5) waNil)) (wFn 1 0 w_law_words (wcP (waCons (wLc false (wiZip (waCons (wVar 0) (waCons (wVar 1) waNil))) (wgTup 2 (wgCons (wgName 9) (wgCons (wgName 10) wgNil))) wYes (wOp (dAdd false) (wVar 9) (wVar 10)) [9, 10]) waNil))))) (wRet (wC (.bl false))) wNext)
  (wKill [0, 1, 2, 6, 7, 8, 9, 10] (wSeq (wFor (wiEnumT (waCons (wVar 5) waNil)) (wgTup 2 (wgCons (wgName 6) (wgCons (wgName 7) wgNil))) (wSeq (wAsg (wLst false (waCons (wOp dIx (wVar 3) (wVar 6)) (waCons (wOp dIx (wVar 4) (wVar 6)) waNil))) (wgName 8))
  (wSeq (wIfS (wAnd (wTest (wOp (dEqO "Row" ["Row"] w_Row_eq dEq) (wOp dIx (wVar 8) (wC (.int 0))) (wOp dIx (wVar 8) (wC (.int 1))))) (wAnd (wTest (wOp (dNeO "Row" ["Row"] w_Row_eq dNe) (wOp dIx (wVar 8) (wC (.int 0))) (wC (.str "mixed")))) (wTest (wOp (dNeO "Row" ["Row"] w_Row_eq dNe) (wVar 7) (wOp dIx (wVar 8) (wC (.int 0))))))) (wRet (wC (.bl false))) wNext)
  (wKill [0, 1, 2, 5, 6, 9, 10] (wIfS (wAnd (wTest (wOp dIn (wC (.str "flat")) (wVar 8))) (wTest (wOp (dNeO "Row" ["Row"] w_Row_eq dNe) (wVar 7) (wOp dIx (wVar 8) (wOp dSub (wC (.int 1)) (wBL dIdxS (wVar 8) (waCons (wC (.str "flat")) waNil))))))) (wRet (wC (.bl false))) wNext)))) [0, 1, 2, 5, 6, 7, 8, 9, 10])
  (wRet (wC (.bl true)))))))) (Φd D.bl fun _ => M) m ∧ m = m_law_added_right gains_here_0 others_0 := ⟨_,
    (bj_par3 (aj_cons (ej_mt (c := "Row") (nm := "added") (n := 1) (m := 0) (e0 := e_Row_0) (e := e_Row_0) (ej_new (n := 1) (m := 0) (e := e_Row_0) (fs := f_Row_0) (cj_p (aj_one (ej_var (e := (eL D.int)) gains_here_0 rfl))) (fun x => m_Row_init x) (fun _ => rfl) (fun _ _ h => h) (fun x M p k E hp h => T_Row_init x M p k E hp h)) (fun _ _ => (cj_p (aj_one (ej_new (n := 1) (m := 0) (e := e_Row_0) (fs := f_Row_0) (cj_p (aj_one (ej_var (e := (eL D.int)) others_0 rfl))) (fun x => m_Row_init x) (fun _ => rfl) (fun _ _ h => h) (fun x M p k E hp h => T_Row_init x M p k E hp h))))) (fun o x => m_Row_added o x) (fun _ _ _ h => mt_d rfl h) (fun _ _ h => h) (fun o x M k E h => T_Row_added o x M k E h)) (fun _ _ => (aj_cons (ej_fn (n := 1) (m := 0) (e := (eL D.str)) (cj_p (aj_one (ej_var (e := (eL D.int)) gains_here_0 rfl))) (fun x => m_law_words x) (fun _ _ h => h) (fun x M k E h => T_law_words x M k E h)) (fun _ _ => (aj_one (ej_fn (n := 1) (m := 0) (e := (eL D.str)) (cj_p (aj_one (ej_var (e := (eL D.int)) others_0 rfl))) (fun x => m_law_words x) (fun _ _ h => h) (fun x M k E h => T_law_words x M k E h))))))) (fun a_4 _ => (bj_rho (ρ2 := [some ((eL D.int) gains_here_0), some ((eL D.int) others_0), some (e_Row_0 a_4.1), some ((eL D.str) a_4.2.1), some ((eL D.str) a_4.2.2), none, none, none, none, none, none]) rfl (bj_asg (e := (eT D.str)) (ej_fn (n := 1) (m := 0) (e := (eT D.str)) (cj_p (aj_one (ej_var (e := e_Row_0) a_4.1 rfl))) (fun x => m_table_words x) (fun _ _ h => h) (fun x M k E h => T_table_words x M k E h)) (fun told_10 s_12 => (bj_rho (ρ2 := [some ((eL D.int) gains_here_0), some ((eL D.int) others_0), some (e_Row_0 a_4.1), some ((eL D.str) a_4.2.1), some ((eL D.str) a_4.2.2), some ((eT D.str) told_10), none, none, none, none, none]) rfl (bj_if (tj_test (ej_op (o_neQ (e1 := (eL D.str)) (fun _ _ _ _ h => h) (o_neG (e := (eL D.str)) (pg_L pg_str) (by decide) (fun _ _ _ _ h => h))) (ej_cb1 (o_listT (e := D.str)) (ej_var (e := (eT D.str)) told_10 rfl)) (fun _ _ => (ej_fn (n := 1) (m := 0) (e := (eL D.str)) (cj_p (aj_one (ej_lcM (eo := D.int) (ρt := fun (x_13 : Int × Int) => [some ((eL D.int) gains_here_0), some ((eL D.int) others_0), some (e_Row_0 a_4.1), some ((eL D.str) a_4.2.1), some ((eL D.str) a_4.2.2), some ((eT D.str) told_10), none, none, none, some (D.int x_13.1), some (D.int x_13.2)]) (ij_zipLL (aj_cons (ej_var (e := (eL D.int)) gains_here_0 rfl) (fun _ _ => (aj_one (ej_var (e := (eL D.int)) others_0 rfl))))) (fun _ _ _ _ h => h) (fun x_13 _ => (ej_op o_add (ej_var (e := D.int) x_13.1 rfl) (fun _ _ => (ej_var (e := D.int) x_13.2 rfl))))))) (fun x => m_law_words x) (fun _ _ h => h) (fun x M k E h => T_law_words x M k E h))))) (fun s_17 => (bj_ret (fin := fun a s' => a) ej_bl (fun P a s' h => (fun P h => h.1) P h))) (fun s_17 => (bj_skip (bj_kill (bj_rho (ρ2 := [none, none, none, some ((eL D.str) a_4.2.1), some ((eL D.str) a_4.2.2), some ((eT D.str) told_10), none, none, none, none, none]) rfl (bj_rho (ρ2 := [none, none, none, some ((eL D.str) a_4.2.1), some ((eL D.str) a_4.2.2), some ((eT D.str) told_10), none, none, none, none, none]) rfl (bj_for (σ := Unit) (ρh := fun v_45 => [none, none, none, some ((eL D.str) a_4.2.1), some ((eL D.str) a_4.2.2), none, none, none, none, none, none]) () (ij_enumTT (aj_one (ej_var (e := (eT D.str)) told_10 rfl))) rfl (fun _ _ _ _ _ h => h) (fun v_45 _ x_47 => (bj_asg (e := (eL D.str)) (ej_lstL (e := D.str) (lj_cons (ej_op (o_ix (e := D.str)) (ej_var (e := (eL D.str)) a_4.2.1 rfl) (fun _ _ => (ej_var (e := D.int) x_47.1 rfl))) (fun _ _ => (lj_cons (ej_op (o_ix (e := D.str)) (ej_var (e := (eL D.str)) a_4.2.2 rfl) (fun _ _ => (ej_var (e := D.int) x_47.1 rfl))) (fun _ _ => lj_nil)))) (by decide)) (fun pair_48 s_51 => (bj_rho (ρ2 := [none, none, none, some ((eL D.str) a_4.2.1), some ((eL D.str) a_4.2.2), none, some (D.int x_47.1), some (D.str x_47.2), some ((eL D.str) pair_48), none, none]) rfl (bj_if (tj_andS (fun s_55 k_56 => (ixR pair_48 0).bind fun t_57 =>
  Res.bind (if (!(decide (t_57 = ("mixed" : Str)))) then (ixR pair_48 0).bind fun t_59 =>
  (Res.ok (!(decide (x_47.2 = t_59)))) else .ok false) fun b_58 =>
  k_56 b_58) (tj_test (ej_op (o_eqQ (e1 := D.str) (fun _ _ _ _ h => h) (o_eq (e := D.str) peq_str)) (ej_op (o_ix (e := D.str)) (ej_var (e := (eL D.str)) pair_48 rfl) (fun _ _ => ej_int)) (fun _ _ => (ej_op (o_ix (e := D.str)) (ej_var (e := (eL D.str)) pair_48 rfl) (fun _ _ => ej_int))))) (fun _ => (tj_andS (fun s_52 k_53 => (ixR pair_48 0).bind fun t_54 =>
  k_53 (!(decide (x_47.2 = t_54)))) (tj_test (ej_op (o_neQ (e1 := D.str) (fun _ _ _ _ h => h) (o_ne (e := D.str) peq_str)) (ej_op (o_ix (e := D.str)) (ej_var (e := (eL D.str)) pair_48 rfl) (fun _ _ => ej_int)) (fun _ _ => ej_str))) (fun _ => (tj_test (ej_op (o_neQ (e1 := D.str) (fun _ _ _ _ h => h) (o_ne (e := D.str) peq_str)) (ej_var (e := D.str) x_47.2 rfl) (fun _ _ => (ej_op (o_ix (e := D.str)) (ej_var (e := (eL D.str)) pair_48 rfl) (fun _ _ => ej_int)))))) (fun _ _ => rfl))) (fun _ _ => rfl)) (fun s_66 => (bj_ret (fin := fun a s' => (Flow.rt a)) ej_bl (fun P a s' h => (rtL (fun rt => rt _ _) (fun P h => h.1)) P h))) (fun s_66 => (bj_skip (bj_kill (bj_rho (ρ2 := [none, none, none, some ((eL D.str) a_4.2.1), some ((eL D.str) a_4.2.2), none, none, some (D.str x_47.2), some ((eL D.str) pair_48), none, none]) rfl (bj_rho (ρ2 := [none, none, none, some ((eL D.str) a_4.2.1), some ((eL D.str) a_4.2.2), none, none, some (D.str x_47.2), some ((eL D.str) pair_48), none, none]) rfl (bj_one (bj_if (tj_andS (fun s_67 k_68 => (idxSR pair_48 ("flat" : Str)).bind fun t_69 =>
  (ixR pair_48 (1 - t_69)).bind fun t_70 =>
  k_68 (!(decide (x_47.2 = t_70)))) (tj_test (ej_op o_inS ej_str (fun _ _ => (ej_var (e := (eL D.str)) pair_48 rfl)))) (fun _ => (tj_test (ej_op (o_neQ (e1 := D.str) (fun _ _ _ _ h => h) (o_ne (e := D.str) peq_str)) (ej_var (e := D.str) x_47.2 rfl) (fun _ _ => (ej_op (o_ix (e := D.str)) (ej_var (e := (eL D.str)) pair_48 rfl) (fun _ _ => (ej_op o_sub ej_int (fun _ _ => (ej_idxS (ej_var (e := (eL D.str)) pair_48 rfl) (fun _ _ => (aj_one ej_str))))))))))) (fun _ _ => rfl)) (fun s_74 => (bj_ret (fin := fun a s' => (Flow.rt a)) ej_bl (fun P a s' h => (rtL (fun rt => rt _ _) (fun P h => h.1)) P h))) (fun s_74 => (bj_skip (bj_nx (v := ()) rfl))))))))))))))) (fun v_75 _ => (bj_rho (ρ2 := [none, none, none, some ((eL D.str) a_4.2.1), some ((eL D.str) a_4.2.2), none, none, none, none, none, none]) rfl (bj_one (bj_ret (fin := fun a s' => a) ej_bl (fun P a s' h => (fun P h => h.1) P h)))))))))))))))))), (by unfold m_law_added_right; rfl)⟩
  exact key { nx := fun _ M' => k .non M', rt := k } E (by rw [e]; exact h.mono fun r h => Φd.of (e := D.bl) (M := fun _ => M) h)
@[irreducible] noncomputable def m_Row_joined (self_0 : R_Row_0) (other_0 : R_Row_0) : Res R_Row_0 :=
  (m_need_row other_0 ("other" : Str)).bind fun r_1 =>
  (szR (self_0.gains ++ (other_0.gains ++ []))).bind fun t_2 =>
  (m_Row_init t_2).bind fun r_3 =>
  (Res.ok r_3)
theorem T_Row_joined (self_0 : R_Row_0) (other_0 : R_Row_0) (M : Mem) (k : D → Mem → Prop) (E : XP) (h : (m_Row_joined self_0 other_0).wp fun r => k (e_Row_0 r) M) : w_Row_joined [e_Row_0 self_0, e_Row_0 other_0] M k E := by
  rw [w_Row_joined_eq]
  obtain ⟨m, key, e⟩ : ∃ m, BJ (fun _ : Unit => M) [some (e_Row_0 self_0), some (e_Row_0 other_0)] ()
    (wSeq (wDrop (wFn 2 0 w_need_row (wcP (waCons (wVar 1) (waCons (wC (.str "other")) waNil)))))
  (wRet (wNew false "Row" 1 0 w_Row_init (wcP (waCons (wLst false (waStar (wFld "gains" (wVar 0)) (waStar (wFld "gains" (wVar 1)) waNil))) waNil))))) (Φd e_Row_0 fun _ => M) m ∧ m = m_Row_joined self_0 other_0 := ⟨_,
    (bj_drop (ej_fn (n := 2) (m := 0) (e := eN) (cj_p (aj_cons (ej_var (e := e_Row_0) other_0 rfl) (fun _ _ => (aj_one ej_str)))) (fun x => m_need_row x.1 x.2) (fun _ _ h => h) (fun x M k E h => T_need_row x.1 x.2 M k E h)) (fun _ _ => (bj_rho (ρ2 := [some (e_Row_0 self_0), some (e_Row_0 other_0)]) rfl (bj_one (bj_ret (fin := fun a s' => a) (ej_new (n := 1) (m := 0) (e := e_Row_0) (fs := f_Row_0) (cj_p (aj_one (ej_lstS (e := D.int) (aj_lstarT (ej_fld (e1 := e_Row_0) (e := (eT D.int)) (fun r => r.gains) (fun _ _ _ h => fld rfl h) (ej_var (e := e_Row_0) self_0 rfl)) (fun _ _ => (aj_lstarT (ej_fld (e1 := e_Row_0) (e := (eT D.int)) (fun r => r.gains) (fun _ _ _ h => fld rfl h) (ej_var (e := e_Row_0) other_0 rfl)) (fun _ _ => aj_lnil))))))) (fun x => m_Row_init x) (fun _ => rfl) (fun _ _ h => h) (fun x M p k E hp h => T_Row_init x M p k E hp h)) (fun P a s' h => (fun P h => h.1) P h)))))), (by unfold m_Row_joined; rfl)⟩
  exact key { nx := fun _ M' => k .non M', rt := k } E (by rw [e]; exact h.mono fun r h => Φd.of (e := e_Row_0) (M := fun _ => M) h)
@[irreducible] noncomputable def m_law_joined_right (gains_here_0 : List Int) (others_0 : List Int) : Res Bool :=
  (addL gains_here_0 others_0).bind fun t_4 =>
  (m_Row_init gains_here_0).bind fun r_5 =>
  (m_Row_init others_0).bind fun r_6 =>
  (m_Row_joined r_5 r_6).bind fun r_7 =>
  let a_3 := (t_4, r_7)
  (m_table_words a_3.2).bind fun r_9 =>
  let told_8 := r_9
  (m_law_words a_3.1).bind fun r_11 =>
  (eqR (okL okS) told_8 r_11).bind fun t_12 =>
  (if (!t_12) then
  (Res.ok false)
  else
  (m_Row_init gains_here_0).bind fun r_47 =>
  (m_table_words r_47).bind fun r_48 =>
  (m_Row_init others_0).bind fun r_49 =>
  (m_table_words r_49).bind fun r_50 =>
  forR (fun (v_28 : Unit) (s_29 : Unit) x_30 =>
  (lcR (fun (x_31 : Int × Str) => (ixR told_8 x_31.1).bind fun t_41 =>
  Res.bind (if (!(decide (t_41 = ("mixed" : Str)))) then (ixR told_8 x_31.1).bind fun t_43 =>
  (Res.ok (!(decide (x_31.2 = t_43)))) else .ok false) fun b_42 =>
  (Res.ok b_42)) (fun (x_31 : Int × Str) => (Res.ok x_31.1)) (enumT 0 x_30) []).bind fun l_40 =>
  (if (!(decide (l_40 = []))) then
  (Res.ok (Flow.rt false))
  else
  (Res.ok (Flow.nx () s_29))))
  (fun v_45 s_46 =>
  (Res.ok true)) [(r_48, r_50).1, (r_48, r_50).2] () ())
theorem T_law_joined_right (gains_here_0 : List Int) (others_0 : List Int) (M : Mem) (k : D → Mem → Prop) (E : XP) (h : (m_law_joined_right gains_here_0 others_0).wp fun r => k (D.bl r) M) : w_law_joined_right [(eL D.int) gains_here_0, (eL D.int) others_0] M k E := by
  rw [w_law_joined_right_eq]
  obtain ⟨m, key, e⟩ : ∃ m, BJ (fun _ : Unit => M) [some ((eL D.int) gains_here_0), some ((eL D.int) others_0), none, none, none, none, none, none] ()
    (wSeq (wPar 2 3 (waCons (wOp (dAdd false) (wVar 0) (wVar 1)) (waCons (wMt "Row" "joined" 1 0 w_Row_joined (wNew false "Row" 1 0 w_Row_init (wcP (waCons (wVar 0) waNil))) (wcP (waCons (wNew false "Row" 1 0 w_Row_init (wcP (waCons (wVar 1) waNil))) waNil))) waNil)))
  (wSeq (wAsg (wFn 1 0 w_table_words (wcP (waCons (wVar 3) waNil))) (wgName 4))
  (wSeq (wIfS (wTest (wOp (dNeO "Row" ["Row"] w_Row_eq dNe) (wCB (b1 (dList false)) (waCons (wVar 4) waNil)) (wFn 1 0 w_law_words (wcP (waCons (wVar 2) waNil))))) (wRet (wC (.bl false))) wNext)
  (wKill [2, 3, 5, 6, 7] (wSeq (wFor (wiAny (wTup (waCons (wFn 1 0 w_table_words (wcP (waCons (wNew false "Row" 1 0 w_Row_init (wcP (waCons (wVar 0) waNil))) waNil))) (waCons (wFn 1 0 w_table_words (wcP (waCons (wNew false "Row" 1 0 w_Row_init (wcP (waCons (wVar 1) waNil))) waNil))) waNil)))) (wgName 5) (wIfS (wTest (wOp (dNeO "Row" ["Row"] w_Row_eq dNe) (wLc false (wiEnumT (waCons (wVar 5) waNil)) (wgTup 2 (wgCons (wgName 6) (wgCons (wgName 7) wgNil))) (wAnd (wTest (wOp (dNeO "Row" ["Row"] w_Row_eq dNe) (wOp dIx (wVar 4) (wVar 6)) (wC (.str "mixed")))) (wTest (wOp (dNeO "Row" ["Row"] w_Row_eq dNe) (wVar 7) (wOp dIx (wVar 4) (wVar 6))))) (wVar 6) [6, 7]) (wLst false waNil))) (wRet (wC (.bl false))) wNext) [0, 1, 2, 3, 5, 6, 7])
  (wRet (wC (.bl true)))))))) (Φd D.bl fun _ => M) m ∧ m = m_law_joined_right gains_here_0 others_0 := ⟨_,
    (bj_par (aj_cons (ej_op (o_addL (e := D.int)) (ej_var (e := (eL D.int)) gains_here_0 rfl) (fun _ _ => (ej_var (e := (eL D.int)) others_0 rfl))) (fun _ _ => (aj_one (ej_mt (c := "Row") (nm := "joined") (n := 1) (m := 0) (e0 := e_Row_0) (e := e_Row_0) (ej_new (n := 1) (m := 0) (e := e_Row_0) (fs := f_Row_0) (cj_p (aj_one (ej_var (e := (eL D.int)) gains_here_0 rfl))) (fun x => m_Row_init x) (fun _ => rfl) (fun _ _ h => h) (fun x M p k E hp h => T_Row_init x M p k E hp h)) (fun _ _ => (cj_p (aj_one (ej_new (n := 1) (m := 0) (e := e_Row_0) (fs := f_Row_0) (cj_p (aj_one (ej_var (e := (eL D.int)) others_0 rfl))) (fun x => m_Row_init x) (fun _ => rfl) (fun _ _ h => h) (fun x M p k E hp h => T_Row_init x M p k E hp h))))) (fun o x => m_Row_joined o x) (fun _ _ _ h => mt_d rfl h) (fun _ _ h => h) (fun o x M k E h => T_Row_joined o x M k E h))))) (fun a_3 _ => (bj_rho (ρ2 := [some ((eL D.int) gains_here_0), some ((eL D.int) others_0), some ((eL D.int) a_3.1), some (e_Row_0 a_3.2), none, none, none, none]) rfl (bj_asg (e := (eT D.str)) (ej_fn (n := 1) (m := 0) (e := (eT D.str)) (cj_p (aj_one (ej_var (e := e_Row_0) a_3.2 rfl))) (fun x => m_table_words x) (fun _ _ h => h) (fun x M k E h => T_table_words x M k E h)) (fun told_8 s_10 => (bj_rho (ρ2 := [some ((eL D.int) gains_here_0), some ((eL D.int) others_0), some ((eL D.int) a_3.1), some (e_Row_0 a_3.2), some ((eT D.str) told_8), none, none, none]) rfl (bj_if (tj_test (ej_op (o_neQ (e1 := (eL D.str)) (fun _ _ _ _ h => h) (o_neG (e := (eL D.str)) (pg_L pg_str) (by decide) (fun _ _ _ _ h => h))) (ej_cb1 (o_listT (e := D.str)) (ej_var (e := (eT D.str)) told_8 rfl)) (fun _ _ => (ej_fn (n := 1) (m := 0) (e := (eL D.str)) (cj_p (aj_one (ej_var (e := (eL D.int)) a_3.1 rfl))) (fun x => m_law_words x) (fun _ _ h => h) (fun x M k E h => T_law_words x M k E h))))) (fun s_13 => (bj_ret (fin := fun a s' => a) ej_bl (fun P a s' h => (fun P h => h.1) P h))) (fun s_13 => (bj_skip (bj_kill (bj_rho (ρ2 := [some ((eL D.int) gains_here_0), some ((eL D.int) others_0), none, none, some ((eT D.str) told_8), none, none, none]) rfl (bj_rho (ρ2 := [some ((eL D.int) gains_here_0), some ((eL D.int) others_0), none, none, some ((eT D.str) told_8), none, none, none]) rfl (bj_for (σ := Unit) (ρh := fun v_28 => [none, none, none, none, some ((eT D.str) told_8), none, none, none]) () (ij_T (ej_as (e' := (eT (eT D.str))) (fun a : (List Str) × (List Str) => [a.1, a.2]) (ej_tup (e := (eT2 (eT D.str) (eT D.str))) (aj_cons (ej_fn (n := 1) (m := 0) (e := (eT D.str)) (cj_p (aj_one (ej_new (n := 1) (m := 0) (e := e_Row_0) (fs := f_Row_0) (cj_p (aj_one (ej_var (e := (eL D.int)) gains_here_0 rfl))) (fun x => m_Row_init x) (fun _ => rfl) (fun _ _ h => h) (fun x M p k E hp h => T_Row_init x M p k E hp h)))) (fun x => m_table_words x) (fun _ _ h => h) (fun x M k E h => T_table_words x M k E h)) (fun _ _ => (aj_one (ej_fn (n := 1) (m := 0) (e := (eT D.str)) (cj_p (aj_one (ej_new (n := 1) (m := 0) (e := e_Row_0) (fs := f_Row_0) (cj_p (aj_one (ej_var (e := (eL D.int)) others_0 rfl))) (fun x => m_Row_init x) (fun _ => rfl) (fun _ _ h => h) (fun x M p k E hp h => T_Row_init x M p k E hp h)))) (fun x => m_table_words x) (fun _ _ h => h) (fun x M k E h => T_table_words x M k E h))))) (fun _ => Nat.le_of_ble_eq_true rfl) (fun _ => rfl)) (fun a => rfl))) rfl (fun _ _ _ _ _ h => h) (fun v_28 _ x_30 => (bj_one (bj_if (tj_test (ej_op (o_neQ (e1 := (eL D.int)) (fun _ _ _ _ h => h) (o_ne (e := (eL D.int)) (peq_of (pd_L pd_int) (by decide) (fun _ _ _ _ h => h)))) (ej_lcR (eo := D.int) (ρt := fun (x_31 : Int × Str) => [none, none, none, none, some ((eT D.str) told_8), some ((eT D.str) x_30), some (D.int x_31.1), some (D.str x_31.2)]) (fun x_31 s_35 k_36 => (ixR told_8 x_31.1).bind fun t_37 =>
  Res.bind (if (!(decide (t_37 = ("mixed" : Str)))) then (ixR told_8 x_31.1).bind fun t_39 =>
  (Res.ok (!(decide (x_31.2 = t_39)))) else .ok false) fun b_38 =>
  k_36 b_38) (fun x_31 s_35 k_36 => k_36 x_31.1) (ij_enumTT (aj_one (ej_var (e := (eT D.str)) x_30 rfl))) (fun _ _ _ _ h => h) (fun x_31 _ => (tj_andS (fun s_32 k_33 => (ixR told_8 x_31.1).bind fun t_34 =>
  k_33 (!(decide (x_31.2 = t_34)))) (tj_test (ej_op (o_neQ (e1 := D.str) (fun _ _ _ _ h => h) (o_ne (e := D.str) peq_str)) (ej_op (o_ixT (e := D.str)) (ej_var (e := (eT D.str)) told_8 rfl) (fun _ _ => (ej_var (e := D.int) x_31.1 rfl))) (fun _ _ => ej_str))) (fun _ => (tj_test (ej_op (o_neQ (e1 := D.str) (fun _ _ _ _ h => h) (o_ne (e := D.str) peq_str)) (ej_var (e := D.str) x_31.2 rfl) (fun _ _ => (ej_op (o_ixT (e := D.str)) (ej_var (e := (eT D.str)) told_8 rfl) (fun _ _ => (ej_var (e := D.int) x_31.1 rfl))))))) (fun _ _ => rfl))) (fun x_31 _ => (ej_var (e := D.int) x_31.1 rfl)) (fun _ _ _ => rfl) (fun _ _ _ => rfl)) (fun _ _ => (ej_lstL (e := D.int) lj_nil (by decide))))) (fun s_44 => (bj_ret (fin := fun a s' => (Flow.rt a)) ej_bl (fun P a s' h => (rtL (fun rt => rt _ _) (fun P h => h.1)) P h))) (fun s_44 => (bj_skip (bj_nx (v := ()) rfl)))))) (fun v_45 _ => (bj_rho (ρ2 := [none, none, none, none, some ((eT D.str) told_8), none, none, none]) rfl (bj_one (bj_ret (fin := fun a s' => a) ej_bl (fun P a s' h => (fun P h => h.1) P h)))))))))))))))))), (by unfold m_law_joined_right; rfl)⟩
  exact key { nx := fun _ M' => k .non M', rt := k } E (by rw [e]; exact h.mono fun r h => Φd.of (e := D.bl) (M := fun _ => M) h)
@[irreducible] noncomputable def m_sort_of (row_0 : R_Row_0) (length_0 : Int) : Res Str :=
  (m_need_length row_0 length_0).bind fun r_1 =>
  (m_sums_in row_0 length_0).bind fun r_2 =>
  (m_word_of r_2).bind fun r_3 =>
  (Res.ok r_3)
theorem T_sort_of (row_0 : R_Row_0) (length_0 : Int) (M : Mem) (k : D → Mem → Prop) (E : XP) (h : (m_sort_of row_0 length_0).wp fun r => k (D.str r) M) : w_sort_of [e_Row_0 row_0, D.int length_0] M k E := by
  rw [w_sort_of_eq]
  obtain ⟨m, key, e⟩ : ∃ m, BJ (fun _ : Unit => M) [some (e_Row_0 row_0), some (D.int length_0)] ()
    (wSeq (wDrop (wFn 2 0 w_need_length (wcP (waCons (wVar 0) (waCons (wVar 1) waNil)))))
  (wRet (wFn 1 0 w_word_of (wcP (waCons (wFn 2 0 w_sums_in (wcP (waCons (wVar 0) (waCons (wVar 1) waNil)))) waNil))))) (Φd D.str fun _ => M) m ∧ m = m_sort_of row_0 length_0 := ⟨_,
    (bj_drop (ej_fn (n := 2) (m := 0) (e := eN) (cj_p (aj_cons (ej_var (e := e_Row_0) row_0 rfl) (fun _ _ => (aj_one (ej_var (e := D.int) length_0 rfl))))) (fun x => m_need_length x.1 x.2) (fun _ _ h => h) (fun x M k E h => T_need_length x.1 x.2 M k E h)) (fun _ _ => (bj_rho (ρ2 := [some (e_Row_0 row_0), some (D.int length_0)]) rfl (bj_one (bj_ret (fin := fun a s' => a) (ej_fn (n := 1) (m := 0) (e := D.str) (cj_p (aj_one (ej_fn (n := 2) (m := 0) (e := (eT D.int)) (cj_p (aj_cons (ej_var (e := e_Row_0) row_0 rfl) (fun _ _ => (aj_one (ej_var (e := D.int) length_0 rfl))))) (fun x => m_sums_in x.1 x.2) (fun _ _ h => h) (fun x M k E h => T_sums_in x.1 x.2 M k E h)))) (fun x => m_word_of x) (fun _ _ h => h) (fun x M k E h => T_word_of x M k E h)) (fun P a s' h => (fun P h => h.1) P h)))))), (by unfold m_sort_of; rfl)⟩
  exact key { nx := fun _ M' => k .non M', rt := k } E (by rw [e]; exact h.mono fun r h => Φd.of (e := D.str) (M := fun _ => M) h)
@[irreducible] noncomputable def m_law_twice_right (gains_here_0 : List Int) : Res Bool :=
  (m_Row_init gains_here_0).bind fun r_5 =>
  let a_4 := (r_5, (gains_here_0.length : Int), gains_here_0.sum)
  (m_Row_joined a_4.1 a_4.1).bind fun r_7 =>
  let both_6 := r_7
  (m_sums both_6 a_4.2.1).bind fun r_9 =>
  (repTR [a_4.2.2] (a_4.2.1 + 1)).bind fun t_10 =>
  (if (!(decide (r_9 = t_10))) then
  (Res.ok false)
  else
  (m_sort_of both_6 a_4.2.1).bind fun r_17 =>
  Res.bind (if (!(decide (r_17 = (if (decide (a_4.2.2 > 0)) then ("gains" : Str) else (if (decide (a_4.2.2 < 0)) then ("loses" : Str) else ("flat" : Str)))))) then .ok true else (mulR 2 a_4.2.1).bind fun t_19 =>
  (m_sort_of both_6 t_19).bind fun r_20 =>
  (m_sort_of both_6 a_4.2.1).bind fun r_21 =>
  (Res.ok (!(decide (r_20 = r_21))))) fun b_18 =>
  (if b_18 then
  (Res.ok false)
  else
  Res.bind (if (!(decide (a_4.2.2 = 0))) then .ok true else (m_table_words both_6).bind fun r_30 =>
  (lcF (fun (x_23 : Str) => (decide (x_23 ∈ [(("gains" : Str), ("loses" : Str)).1, (("gains" : Str), ("loses" : Str)).2]))) (fun (x_23 : Str) => x_23) (cutD r_30 none (some a_4.2.1))).bind fun l_31 =>
  (eqR (okL okS) l_31 []).bind fun t_32 =>
  (Res.ok t_32)) fun b_29 =>
  (Res.ok b_29)))
theorem T_law_twice_right (gains_here_0 : List Int) (M : Mem) (k : D → Mem → Prop) (E : XP) (h : (m_law_twice_right gains_here_0).wp fun r => k (D.bl r) M) : w_law_twice_right [(eL D.int) gains_here_0] M k E := by
  rw [w_law_twice_right_eq]
  obtain ⟨m, key, e⟩ : ∃ m, BJ (fun _ : Unit => M) [some ((eL D.int) gains_here_0), none, none, none, none, none] ()
    (wSeq (wPar3 1 2 3 (waCons (wNew false "Row" 1 0 w_Row_init (wcP (waCons (wVar 0) waNil))) (waCons (wCB (b1 (dLenO "Row" w_Row_len dLen)) (waCons (wVar 0) waNil)) (waCons (wCB (b1 dSum) (waCons (wVar 0) waNil)) waNil))))
  (wSeq (wAsg (wMt "Row" "joined" 1 0 w_Row_joined (wVar 1) (wcP (waCons (wVar 1) waNil))) (wgName 4))
  (wSeq (wIfS (wTest (wOp (dNeO "Row" ["Row"] w_Row_eq dNe) (wFn 2 0 w_sums (wcP (waCons (wVar 4) (waCons (wVar 2) waNil)))) (wOp (dMulT false) (wTup (waCons (wVar 3) waNil)) (wOp (dAdd false) (wVar 2) (wC (.int 1)))))) (wRet (wC (.bl false))) wNext)
  (wKill [0, 1, 5] (wSeq (wIfS (wOr (wTest (wOp (dNeO "Row" ["Row"] w_Row_eq dNe) (wFn 2 0 w_sort_of (wcP (waCons (wVar 4) (waCons (wVar 2) waNil)))) (wIf (wTest (wOp dGt (wVar 3) (wC (.int 0)))) (wC (.str "gains")) (wIf (wTest (wOp dLt (wVar 3) (wC (.int 0)))) (wC (.str "loses")) (wC (.str "flat")))))) (wTest (wOp (dNeO "Row" ["Row"] w_Row_eq dNe) (wFn 2 0 w_sort_of (wcP (waCons (wVar 4) (waCons (wOp (dMulT false) (wC (.int 2)) (wVar 2)) waNil)))) (wFn 2 0 w_sort_of (wcP (waCons (wVar 4) (waCons (wVar 2) waNil))))))) (wRet (wC (.bl false))) wNext)
  (wKill [0, 1, 5] (wRet (wOrT (wOp (dNeO "Row" ["Row"] w_Row_eq dNe) (wVar 3) (wC (.int 0))) (wOp (dEqO "Row" ["Row"] w_Row_eq dEq) (wLc false (wiAny (wSl false (wFn 1 0 w_table_words (wcP (waCons (wVar 4) waNil))) woNone (woSome (wVar 2)))) (wgName 5) (wTest (wOp dIn (wVar 5) (wTup (waCons (wC (.str "gains")) (waCons (wC (.str "loses")) waNil))))) (wVar 5) [5]) (wLst false waNil)))))))))) (Φd D.bl fun _ => M) m ∧ m = m_law_twice_right gains_here_0 := ⟨_,
    (bj_par3 (aj_cons (ej_new (n := 1) (m := 0) (e := e_Row_0) (fs := f_Row_0) (cj_p (aj_one (ej_var (e := (eL D.int)) gains_here_0 rfl))) (fun x => m_Row_init x) (fun _ => rfl) (fun _ _ h => h) (fun x M p k E hp h => T_Row_init x M p k E hp h)) (fun _ _ => (aj_cons (ej_cb1 (o_lenQ (e1 := (eL D.int)) (fun _ _ _ h => h) (o_len (e := D.int))) (ej_var (e := (eL D.int)) gains_here_0 rfl)) (fun _ _ => (aj_one (ej_cb1 o_sum (ej_var (e := (eL D.int)) gains_here_0 rfl))))))) (fun a_4 _ => (bj_rho (ρ2 := [some ((eL D.int) gains_here_0), some (e_Row_0 a_4.1), some (D.int a_4.2.1), some (D.int a_4.2.2), none, none]) rfl (bj_asg (e := e_Row_0) (ej_mt (c := "Row") (nm := "joined") (n := 1) (m := 0) (e0 := e_Row_0) (e := e_Row_0) (ej_var (e := e_Row_0) a_4.1 rfl) (fun _ _ => (cj_p (aj_one (ej_var (e := e_Row_0) a_4.1 rfl)))) (fun o x => m_Row_joined o x) (fun _ _ _ h => mt_d rfl h) (fun _ _ h => h) (fun o x M k E h => T_Row_joined o x M k E h)) (fun both_6 s_8 => (bj_rho (ρ2 := [some ((eL D.int) gains_here_0), some (e_Row_0 a_4.1), some (D.int a_4.2.1), some (D.int a_4.2.2), some (e_Row_0 both_6), none]) rfl (bj_if (tj_test (ej_op (o_neQ (e1 := (eT D.int)) (fun _ _ _ _ h => h) (o_ne (e := (eT D.int)) (peq_of (pd_T pd_int) (by decide) (fun _ _ _ _ h => h)))) (ej_fn (n := 2) (m := 0) (e := (eT D.int)) (cj_p (aj_cons (ej_var (e := e_Row_0) both_6 rfl) (fun _ _ => (aj_one (ej_var (e := D.int) a_4.2.1 rfl))))) (fun x => m_sums x.1 x.2) (fun _ _ h => h) (fun x M k E h => T_sums x.1 x.2 M k E h)) (fun _ _ => (ej_op o_repT (ej_as (e' := (eT D.int)) (fun a : Int => [a]) (ej_tup (e := (fun x : Int => D.tup [D.int x])) (aj_one (ej_var (e := D.int) a_4.2.2 rfl)) (fun _ => Nat.le_of_ble_eq_true rfl) (fun _ => rfl)) (fun a => rfl)) (fun _ _ => (ej_op o_add (ej_var (e := D.int) a_4.2.1 rfl) (fun _ _ => ej_int))))))) (fun s_11 => (bj_ret (fin := fun a s' => a) ej_bl (fun P a s' h => (fun P h => h.1) P h))) (fun s_11 => (bj_skip (bj_kill (bj_rho (ρ2 := [none, none, some (D.int a_4.2.1), some (D.int a_4.2.2), some (e_Row_0 both_6), none]) rfl (bj_rho (ρ2 := [none, none, some (D.int a_4.2.1), some (D.int a_4.2.2), some (e_Row_0 both_6), none]) rfl (bj_if (tj_orS (fun s_12 k_13 => (mulR 2 a_4.2.1).bind fun t_14 =>
  (m_sort_of both_6 t_14).bind fun r_15 =>
  (m_sort_of both_6 a_4.2.1).bind fun r_16 =>
  k_13 (!(decide (r_15 = r_16)))) (tj_test (ej_op (o_neQ (e1 := D.str) (fun _ _ _ _ h => h) (o_ne (e := D.str) peq_str)) (ej_fn (n := 2) (m := 0) (e := D.str) (cj_p (aj_cons (ej_var (e := e_Row_0) both_6 rfl) (fun _ _ => (aj_one (ej_var (e := D.int) a_4.2.1 rfl))))) (fun x => m_sort_of x.1 x.2) (fun _ _ h => h) (fun x M k E h => T_sort_of x.1 x.2 M k E h)) (fun _ _ => (ej_ifP (e := D.str) (tj_test (ej_op o_gt (ej_var (e := D.int) a_4.2.2 rfl) (fun _ _ => ej_int))) (fun _ => ej_str) (fun _ => (ej_ifP (e := D.str) (tj_test (ej_op o_lt (ej_var (e := D.int) a_4.2.2 rfl) (fun _ _ => ej_int))) (fun _ => ej_str) (fun _ => ej_str))))))) (fun _ => (tj_test (ej_op (o_neQ (e1 := D.str) (fun _ _ _ _ h => h) (o_ne (e := D.str) peq_str)) (ej_fn (n := 2) (m := 0) (e := D.str) (cj_p (aj_cons (ej_var (e := e_Row_0) both_6 rfl) (fun _ _ => (aj_one (ej_op o_mul ej_int (fun _ _ => (ej_var (e := D.int) a_4.2.1 rfl))))))) (fun x => m_sort_of x.1 x.2) (fun _ _ h => h) (fun x M k E h => T_sort_of x.1 x.2 M k E h)) (fun _ _ => (ej_fn (n := 2) (m := 0) (e := D.str) (cj_p (aj_cons (ej_var (e := e_Row_0) both_6 rfl) (fun _ _ => (aj_one (ej_var (e := D.int) a_4.2.1 rfl))))) (fun x => m_sort_of x.1 x.2) (fun _ _ h => h) (fun x M k E h => T_sort_of x.1 x.2 M k E h)))))) (fun _ _ => rfl)) (fun s_22 => (bj_ret (fin := fun a s' => a) ej_bl (fun P a s' h => (fun P h => h.1) P h))) (fun s_22 => (bj_skip (bj_kill (bj_rho (ρ2 := [none, none, some (D.int a_4.2.1), some (D.int a_4.2.2), some (e_Row_0 both_6), none]) rfl (bj_rho (ρ2 := [none, none, some (D.int a_4.2.1), some (D.int a_4.2.2), some (e_Row_0 both_6), none]) rfl (bj_one (bj_ret (fin := fun a s' => a) (ej_orS (fun s_24 k_25 => (m_table_words both_6).bind fun r_26 =>
  (lcF (fun (x_23 : Str) => (decide (x_23 ∈ [(("gains" : Str), ("loses" : Str)).1, (("gains" : Str), ("loses" : Str)).2]))) (fun (x_23 : Str) => x_23) (cutD r_26 none (some a_4.2.1))).bind fun l_27 =>
  (eqR (okL okS) l_27 []).bind fun t_28 =>
  k_25 t_28) (ej_op (o_neQ (e1 := D.int) (fun _ _ _ _ h => h) (o_ne (e := D.int) peq_int)) (ej_var (e := D.int) a_4.2.2 rfl) (fun _ _ => ej_int)) (fun _ => (ej_op (o_eqQ (e1 := (eL D.str)) (fun _ _ _ _ h => h) (o_eqG (e := (eL D.str)) (pg_L pg_str) (by decide) (fun _ _ _ _ h => h))) (ej_lcF (eo := D.str) (ρt := fun (x_23 : Str) => [none, none, some (D.int a_4.2.1), some (D.int a_4.2.2), some (e_Row_0 both_6), some (D.str x_23)]) (ij_T (ej_sl (e := (eT D.str)) sl_T (ej_fn (n := 1) (m := 0) (e := (eT D.str)) (cj_p (aj_one (ej_var (e := e_Row_0) both_6 rfl))) (fun x => m_table_words x) (fun _ _ h => h) (fun x M k E h => T_table_words x M k E h)) (fun _ _ => oj_none) (fun _ _ _ _ => (oj_some (ej_var (e := D.int) a_4.2.1 rfl))))) (fun _ _ _ _ h => h) (fun x_23 _ => (tj_test (ej_op o_inST (ej_var (e := D.str) x_23 rfl) (fun _ _ => (ej_as (e' := (eT D.str)) (fun a : Str × Str => [a.1, a.2]) (ej_tup (e := (eT2 D.str D.str)) (aj_cons ej_str (fun _ _ => (aj_one ej_str))) (fun _ => Nat.le_of_ble_eq_true rfl) (fun _ => rfl)) (fun a => rfl)))))) (fun x_23 _ => (ej_var (e := D.str) x_23 rfl))) (fun _ _ => (ej_lstL (e := D.str) lj_nil (by decide))))) (fun _ _ => rfl)) (fun P a s' h => (fun P h => h.1) P h))))))))))))))))))))), (by unfold m_law_twice_right; rfl)⟩
  exact key { nx := fun _ M' => k .non M', rt := k } E (by rw [e]; exact h.mono fun r h => Φd.of (e := D.bl) (M := fun _ => M) h)
@[irreducible] noncomputable def m_law (script_0 : List Int) : Res Bool :=
  (m_law_tap script_0).bind fun r_1 =>
  let s_3 := ((), r_1)
  (rngR 0 3).bind fun r_159 =>
  forR (fun (v_79 : Unit) (s_80 : Unit × ((List Int) × Int × Int)) x_81 =>
  (m_law_any s_80.2 [6, 12, 5, 1, 16, 7, 2, 8, 9, 3]).bind fun r_83 =>
  (m_law_gains (s_80.1, r_83.2).2 r_83.1).bind fun r_84 =>
  let gains_here_82 := r_84.1
  let s_85 := ((s_80.1, r_83.2).1, r_84.2)
  Res.bind ((m_law_drip s_85.2 3).bind fun r_152 =>
  (if (decide (r_152.1 = 0)) then
  (m_law_known (s_85.1, r_152.2).2).bind fun r_154 =>
  let gains_here_153 := r_154.1
  let s_155 := ((s_85.1, r_152.2).1, r_154.2)
  (Res.ok (gains_here_153, s_155))
  else
  (Res.ok (gains_here_82, (s_85.1, r_152.2))))) fun q_151 =>
  let v_95 := q_151.1
  let s_96 := q_151.2
  (m_law_gains s_96.2 (v_95.length : Int)).bind fun r_98 =>
  let others_97 := r_98.1
  let s_99 := (s_96.1, r_98.2)
  Res.bind ((m_law_drip s_99.2 3).bind fun r_139 =>
  (if (decide (r_139.1 = 0)) then
  (m_law_drip (s_99.1, r_139.2).2 3).bind fun r_143 =>
  Res.bind (if (decide (r_143.1 = 0)) then (repL [0] (v_95.length : Int)).bind fun t_145 =>
  (Res.ok (t_145, ((s_99.1, r_139.2).1, r_143.2))) else (lcS (fun (x_140 : Int) (s_141 : Unit × ((List Int) × Int × Int)) => if true then (m_law_any s_141.2 [2, (-1), 3]).bind fun r_147 =>
  (mulR r_147.1 x_140).bind fun t_148 =>
  Res.ok (some t_148, (s_141.1, r_147.2)) else .ok (none, s_141)) v_95 [] ((s_99.1, r_139.2).1, r_143.2)).bind fun q_146 =>
  (Res.ok (q_146.1, q_146.2))) fun y_144 =>
  let others_142 := y_144.1
  (Res.ok (others_142, y_144.2))
  else
  (Res.ok (others_97, (s_99.1, r_139.2))))) fun q_138 =>
  let v_121 := q_138.1
  let s_122 := q_138.2
  (m_law_alone_right s_122.2 v_95).bind fun r_126 =>
  Res.bind (if (!r_126.1) then .ok true else (m_law_added_right v_95 v_121).bind fun r_128 =>
  (Res.ok (!r_128))) fun b_127 =>
  (if b_127 then
  (Res.ok (Flow.rt false))
  else
  (m_law_joined_right v_95 v_121).bind fun r_133 =>
  Res.bind (if (!r_133) then .ok true else (m_law_twice_right v_95).bind fun r_135 =>
  (Res.ok (!r_135))) fun b_134 =>
  (if b_134 then
  (Res.ok (Flow.rt false))
  else
  (Res.ok (Flow.nx () (s_122.1, r_126.2))))))
  (fun v_157 s_158 =>
  (Res.ok true)) r_159 () s_3
theorem T_law (script_0 : List Int) (M : Mem) (k : D → Mem → Prop) (E : XP) (h : (m_law script_0).wp fun r => k (D.bl r) M) : w_law [D.scr script_0] M k E := by
  rw [w_law_eq]
  obtain ⟨m, key, e⟩ : ∃ m, BJ (fun _ : Unit => M) [some (D.scr script_0), none, none, none, none, none] ()
    (wSeq (wAsg (wFn 1 0 w_law_tap (wcP (waCons (wVar 0) waNil))) (wgName 1))
  (wSeq (wFor (wiR1 (waCons (wC (.int 3)) waNil)) (wgName 2) (wSeq (wAsg (wFn 2 0 w_law_gains (wcP (waCons (wVar 1) (waCons (wFn 2 0 w_law_any (wcP (waCons (wVar 1) (waCons (wLst false (waCons (wC (.int 6)) (waCons (wC (.int 12)) (waCons (wC (.int 5)) (waCons (wC (.int 1)) (waCons (wC (.int 16)) (waCons (wC (.int 7)) (waCons (wC (.int 2)) (waCons (wC (.int 8)) (waCons (wC (.int 9)) (waCons (wC (.int 3)) waNil))))))))))) waNil)))) waNil)))) (wgName 3))
  (wSeq (wIfS (wTest (wOp (dEqO "Row" ["Row"] w_Row_eq dEq) (wFn 2 0 w_law_drip (wcP (waCons (wVar 1) (waCons (wC (.int 3)) waNil)))) (wC (.int 0)))) (wAsg (wFn 1 0 w_law_known (wcP (waCons (wVar 1) waNil))) (wgName 3)) wNext)
  (wKill [0, 2, 4, 5] (wSeq (wAsg (wFn 2 0 w_law_gains (wcP (waCons (wVar 1) (waCons (wCB (b1 dLen) (waCons (wVar 3) waNil)) waNil)))) (wgName 4))
  (wSeq (wIfS (wTest (wOp (dEqO "Row" ["Row"] w_Row_eq dEq) (wFn 2 0 w_law_drip (wcP (waCons (wVar 1) (waCons (wC (.int 3)) waNil)))) (wC (.int 0)))) (wAsg (wIf (wTest (wOp (dEqO "Row" ["Row"] w_Row_eq dEq) (wFn 2 0 w_law_drip (wcP (waCons (wVar 1) (waCons (wC (.int 3)) waNil)))) (wC (.int 0)))) (wOp (dMulT false) (wLst false (waCons (wC (.int 0)) waNil)) (wCB (b1 dLen) (waCons (wVar 3) waNil))) (wLc false (wiAny (wVar 3)) (wgName 5) wYes (wOp (dMulT false) (wFn 2 0 w_law_any (wcP (waCons (wVar 1) (waCons (wLst false (waCons (wC (.int 2)) (waCons (wUn dNeg (wC (.int 1))) (waCons (wC (.int 3)) waNil)))) waNil)))) (wVar 5)) [5])) (wgName 4)) wNext)
  (wKill [0, 2, 5] (wSeq (wIfS (wOr (wNot (wTru (wFn 2 0 w_law_alone_right (wcP (waCons (wVar 1) (waCons (wVar 3) waNil)))))) (wNot (wTru (wFn 2 0 w_law_added_right (wcP (waCons (wVar 3) (waCons (wVar 4) waNil))))))) (wRet (wDp [1] (wC (.bl false)))) wNext)
  (wKill [0, 2, 5] (wIfS (wOr (wNot (wTru (wFn 2 0 w_law_joined_right (wcP (waCons (wVar 3) (waCons (wVar 4) waNil)))))) (wNot (wTru (wFn 1 0 w_law_twice_right (wcP (waCons (wVar 3) waNil)))))) (wRet (wDp [1] (wC (.bl false)))) wNext))))))))) [0, 2, 3, 4, 5])
  (wRet (wDp [1] (wC (.bl true)))))) (Φd D.bl fun _ => M) m ∧ m = m_law script_0 := ⟨_,
    (bj_new (c := (cL3 (eL D.int) D.int D.int)) di_unit (nj_fn (n := 1) (m := 0) (cj_p (aj_one (ej_var (e := D.scr) script_0 rfl))) (fun x => m_law_tap x) (fun _ _ h => h) (fun x M k E h => T_law_tap x M k E h)) (fun _ _ p_tap_here_2 μ_tap_here_2 h_tap_here_2 => (bj_rho (ρ2 := [some (D.scr script_0), some (D.ref p_tap_here_2), none, none, none, none]) rfl (bj_for (σ := Unit) (ρh := fun v_79 => [none, some (D.ref p_tap_here_2), none, none, none, none]) () (ij_r1 (aj_one ej_int)) rfl (fun _ _ _ _ _ h => h) (fun v_79 _ x_81 => (bj_asg (e := (eL D.int)) (ej_fnM (n := 2) (m := 0) (e := (eL D.int)) (cj_p (aj_cons (ej_cell rfl) (fun _ _ => (aj_one (ej_fnM (n := 2) (m := 0) (e := D.int) (cj_p (aj_cons (ej_cell rfl) (fun _ _ => (aj_one (ej_lstL (e := D.int) (lj_cons ej_int (fun _ _ => (lj_cons ej_int (fun _ _ => (lj_cons ej_int (fun _ _ => (lj_cons ej_int (fun _ _ => (lj_cons ej_int (fun _ _ => (lj_cons ej_int (fun _ _ => (lj_cons ej_int (fun _ _ => (lj_cons ej_int (fun _ _ => (lj_cons ej_int (fun _ _ => (lj_cons ej_int (fun _ _ => lj_nil)))))))))))))))))))) (by decide)))))) (fun x t => m_law_any t x.2) h_tap_here_2.ca (fun _ _ h => h) (fun x N t k E hp h => T_law_any t x.2 N _ k E hp h)))))) (fun x t => m_law_gains t x.2) h_tap_here_2.ca (fun _ _ h => h) (fun x N t k E hp h => T_law_gains t x.2 N _ k E hp h)) (fun gains_here_82 s_86 => (bj_rho (ρ2 := [none, some (D.ref p_tap_here_2), some (D.int x_81), some ((eL D.int) gains_here_82), none, none]) rfl (bj_ifJ (σ := (List Int)) (ρj := fun v_95 => [none, some (D.ref p_tap_here_2), none, some ((eL D.int) v_95), none, none]) (tj_test (ej_op (o_eqQ (e1 := D.int) (fun _ _ _ _ h => h) (o_eq (e := D.int) peq_int)) (ej_fnM (n := 2) (m := 0) (e := D.int) (cj_p (aj_cons (ej_cell rfl) (fun _ _ => (aj_one ej_int)))) (fun x t => m_law_drip t x.2) h_tap_here_2.ca (fun _ _ h => h) (fun x N t k E hp h => T_law_drip t x.2 N _ k E hp h)) (fun _ _ => ej_int))) (fun _ => (bj_one (bj_asg (e := (eL D.int)) (ej_fnM (n := 1) (m := 0) (e := (eL D.int)) (cj_p (aj_one (ej_cell rfl))) (fun x t => m_law_known t) h_tap_here_2.ca (fun _ _ h => h) (fun x N t k E hp h => T_law_known t N _ k E hp h)) (fun gains_here_91 s_94 => (bj_jn (v := gains_here_91) rfl))))) (fun _ => (bj_jn (v := gains_here_82) rfl)) (fun v_95 _ => (bj_rho (ρ2 := [none, some (D.ref p_tap_here_2), none, some ((eL D.int) v_95), none, none]) rfl (bj_asg (e := (eL D.int)) (ej_fnM (n := 2) (m := 0) (e := (eL D.int)) (cj_p (aj_cons (ej_cell rfl) (fun _ _ => (aj_one (ej_cb1 (o_len (e := D.int)) (ej_var (e := (eL D.int)) v_95 rfl)))))) (fun x t => m_law_gains t x.2) h_tap_here_2.ca (fun _ _ h => h) (fun x N t k E hp h => T_law_gains t x.2 N _ k E hp h)) (fun others_97 s_100 => (bj_rho (ρ2 := [none, some (D.ref p_tap_here_2), none, some ((eL D.int) v_95), some ((eL D.int) others_97), none]) rfl (bj_ifJ (σ := (List Int)) (ρj := fun v_121 => [none, some (D.ref p_tap_here_2), none, some ((eL D.int) v_95), some ((eL D.int) v_121), none]) (tj_test (ej_op (o_eqQ (e1 := D.int) (fun _ _ _ _ h => h) (o_eq (e := D.int) peq_int)) (ej_fnM (n := 2) (m := 0) (e := D.int) (cj_p (aj_cons (ej_cell rfl) (fun _ _ => (aj_one ej_int)))) (fun x t => m_law_drip t x.2) h_tap_here_2.ca (fun _ _ h => h) (fun x N t k E hp h => T_law_drip t x.2 N _ k E hp h)) (fun _ _ => ej_int))) (fun _ => (bj_one (bj_asg (e := (eL D.int)) (ej_ifE (e := (eL D.int)) (tj_test (ej_op (o_eqQ (e1 := D.int) (fun _ _ _ _ h => h) (o_eq (e := D.int) peq_int)) (ej_fnM (n := 2) (m := 0) (e := D.int) (cj_p (aj_cons (ej_cell rfl) (fun _ _ => (aj_one ej_int)))) (fun x t => m_law_drip t x.2) h_tap_here_2.ca (fun _ _ h => h) (fun x N t k E hp h => T_law_drip t x.2 N _ k E hp h)) (fun _ _ => ej_int))) (fun _ => (ej_op o_repL (ej_lstL (e := D.int) (lj_cons ej_int (fun _ _ => lj_nil)) (by decide)) (fun _ _ => (ej_cb1 (o_len (e := D.int)) (ej_var (e := (eL D.int)) v_95 rfl))))) (fun _ => (ej_lcS (eo := D.int) (ρt := fun (x_111 : Int) => [none, some (D.ref p_tap_here_2), none, some ((eL D.int) v_95), some ((eL D.int) others_97), some (D.int x_111)]) (ij_L (ej_var (e := (eL D.int)) v_95 rfl)) (fun _ _ _ _ h => h) (fun x_111 _ => tj_yes) (fun x_111 _ => (ej_op o_mul (ej_fnM (n := 2) (m := 0) (e := D.int) (cj_p (aj_cons (ej_cell rfl) (fun _ _ => (aj_one (ej_lstL (e := D.int) (lj_cons ej_int (fun _ _ => (lj_cons (ej_un o_neg ej_int) (fun _ _ => (lj_cons ej_int (fun _ _ => lj_nil)))))) (by decide)))))) (fun x t => m_law_any t x.2) h_tap_here_2.ca (fun _ _ h => h) (fun x N t k E hp h => T_law_any t x.2 N _ k E hp h)) (fun _ _ => (ej_var (e := D.int) x_111 rfl))))))) (fun others_113 s_120 => (bj_jn (v := others_113) rfl))))) (fun _ => (bj_jn (v := others_97) rfl)) (fun v_121 _ => (bj_rho (ρ2 := [none, some (D.ref p_tap_here_2), none, some ((eL D.int) v_95), some ((eL D.int) v_121), none]) rfl (bj_if (tj_orS (fun s_123 k_124 => (m_law_added_right v_95 v_121).bind fun r_125 =>
  k_124 (!r_125)) (tj_not (tj_tru (β := _) t_bl (ej_fnM (n := 2) (m := 0) (e := D.bl) (cj_p (aj_cons (ej_cell rfl) (fun _ _ => (aj_one (ej_var (e := (eL D.int)) v_95 rfl))))) (fun x t => m_law_alone_right t x.2) h_tap_here_2.ca (fun _ _ h => h) (fun x N t k E hp h => T_law_alone_right t x.2 N _ k E hp h)))) (fun _ => (tj_not (tj_tru (β := _) t_bl (ej_fn (n := 2) (m := 0) (e := D.bl) (cj_p (aj_cons (ej_var (e := (eL D.int)) v_95 rfl) (fun _ _ => (aj_one (ej_var (e := (eL D.int)) v_121 rfl))))) (fun x => m_law_added_right x.1 x.2) (fun _ _ h => h) (fun x M k E h => T_law_added_right x.1 x.2 M k E h))))) (fun _ _ => rfl)) (fun s_129 => (bj_retD (fin := fun a s' => (Flow.rt a)) ej_bl (fun P a s' h => (rtL (fun rt => drops [1] [none, some (D.ref p_tap_here_2), none, some ((eL D.int) v_95), some ((eL D.int) v_121), none] (μ_tap_here_2 s') fun M2 => rt (D.bl a) M2) (fun P h => (drop1 h_tap_here_2.cr h.1))) P h))) (fun s_129 => (bj_skip (bj_kill (bj_rho (ρ2 := [none, some (D.ref p_tap_here_2), none, some ((eL D.int) v_95), some ((eL D.int) v_121), none]) rfl (bj_rho (ρ2 := [none, some (D.ref p_tap_here_2), none, some ((eL D.int) v_95), some ((eL D.int) v_121), none]) rfl (bj_one (bj_if (tj_orS (fun s_130 k_131 => (m_law_twice_right v_95).bind fun r_132 =>
  k_131 (!r_132)) (tj_not (tj_tru (β := _) t_bl (ej_fn (n := 2) (m := 0) (e := D.bl) (cj_p (aj_cons (ej_var (e := (eL D.int)) v_95 rfl) (fun _ _ => (aj_one (ej_var (e := (eL D.int)) v_121 rfl))))) (fun x => m_law_joined_right x.1 x.2) (fun _ _ h => h) (fun x M k E h => T_law_joined_right x.1 x.2 M k E h)))) (fun _ => (tj_not (tj_tru (β := _) t_bl (ej_fn (n := 1) (m := 0) (e := D.bl) (cj_p (aj_one (ej_var (e := (eL D.int)) v_95 rfl))) (fun x => m_law_twice_right x) (fun _ _ h => h) (fun x M k E h => T_law_twice_right x M k E h))))) (fun _ _ => rfl)) (fun s_136 => (bj_retD (fin := fun a s' => (Flow.rt a)) ej_bl (fun P a s' h => (rtL (fun rt => drops [1] [none, some (D.ref p_tap_here_2), none, some ((eL D.int) v_95), some ((eL D.int) v_121), none] (μ_tap_here_2 s') fun M2 => rt (D.bl a) M2) (fun P h => (drop1 h_tap_here_2.cr h.1))) P h))) (fun s_136 => (bj_skip (bj_nx (v := ()) rfl)))))))))))))))))))))))) (fun v_157 _ => (bj_rho (ρ2 := [none, some (D.ref p_tap_here_2), none, none, none, none]) rfl (bj_one (bj_retD (fin := fun a s' => a) ej_bl (fun P a s' h => (fun P h => (drop1 h_tap_here_2.cr h.1)) P h))))))))), (by unfold m_law; rfl)⟩
  exact key { nx := fun _ M' => k .non M', rt := k } E (by rw [e]; exact h.mono fun r h => Φd.of (e := D.bl) (M := fun _ => M) h)
end K10

set_option Elab.async false
set_option linter.all false
set_option maxRecDepth 100000
set_option maxHeartbeats 4000000
namespace K10
open PySem PySem.Spec PyProof.Rows L2 Rl RZ RT Px Ty
local macro_rules | `(tactic| walk_at "num") => `(tactic| first | assumption | omega | decide)
local macro_rules | `(tactic| walk_at "ok") => `(tactic| with_reducible first
  | (refine wp_bok (mdR_ok ?_) ?_; (· with_unfolding_all walk_at "num"))
  | (refine wp_bok (fdR_ok ?_ ?_) ?_; (· with_unfolding_all walk_at "num"); (· with_unfolding_all walk_at "num"))
  | (refine wp_bok (rngR_ok ⟨⟨?_, ?_⟩, ?_, ?_⟩) ?_; (· with_unfolding_all walk_at "num"); (· with_unfolding_all walk_at "num"); (· with_unfolding_all walk_at "num"); (· with_unfolding_all walk_at "num"))
  | (refine wp_bok (mulR_l ?_) ?_; (· with_unfolding_all walk_at "num"))
  | (refine wp_bok (mulR_r ?_) ?_; (· with_unfolding_all walk_at "num"))
  | (refine wp_bok (ixR_ok ?_ ?_) ?_; (· with_unfolding_all walk_at "num"); (· with_unfolding_all walk_at "num"))
  | (refine wp_bok (lcM_ok ?_) ?_; (· with_unfolding_all walk_at "num"))
  | (refine wp_bok (lcF_ok ?_) ?_; (· with_unfolding_all walk_at "num"))
  | (refine wp_bok (addL_ok ?_) ?_; (· with_unfolding_all walk_at "num"))
  | (refine wp_bok (appR_ok ?_) ?_; (· with_unfolding_all walk_at "num"))
  | (refine wp_bok (setR_ok ?_ ?_) ?_; (· with_unfolding_all walk_at "num"); (· with_unfolding_all walk_at "num"))
  | (refine wp_bok (pwR_ok ⟨?_, ?_, ?_⟩) ?_; (· with_unfolding_all walk_at "num"); (· with_unfolding_all walk_at "num"); (· with_unfolding_all walk_at "num")))
local macro_rules | `(tactic| walk_at "t") => `(tactic| (repeat ((try dsimp only); walk_at "ok")); try dsimp only)
/-! ### the drawing of numbers -/
theorem pos_fd {a b : Int} (h : 0 ≤ a) (hb : 0 < b) : 0 ≤ a / b := Int.ediv_nonneg h (Int.le_of_lt hb)
theorem drip_wp {b n : Int} {t : TapT} (h : TapOk b t) (hb : b ≤ 1000000) (h0 : 0 < n) (h1 : n < 1000000) : (m_law_drip t n).wp fun r => (0 ≤ r.1 ∧ r.1 < n) ∧ TapOk (b + 1) r.2 := by
  obtain ⟨c, p, d⟩ := t
  obtain ⟨hl, hlo, hhi⟩ := h
  dsimp only at hl hlo hhi
  have em : ∀ x : Int, (0 ≤ x % n ∧ x % n < n) := fun x => ⟨Int.emod_nonneg _ (by omega), Int.emod_lt_of_pos _ h0⟩
  unfold m_law_drip
  try dsimp only
  refine wp_ite (fun _ => ?_) fun _ => ?_
  · walk_at "t"
    exact ⟨em _, hl, by dsimp only; omega, by dsimp only; omega⟩
  · walk_at "t"
    refine wp_bnd (R := fun r => r.2 = (c, p + 1, d)) ?_ fun r hr => ?_
    · refine wp_ite (fun hc => ?_) fun _ => rfl
      have hne : c ≠ [] := by simpa using hc
      have : 0 < c.length := List.length_pos_iff.mpr hne
      have e1 : 0 ≤ p % (c.length : Int) := Int.emod_nonneg _ (by omega)
      have e2 : p % (c.length : Int) < c.length := Int.emod_lt_of_pos _ (by omega)
      walk_at "t"
      rfl
    obtain ⟨v, s⟩ := r
    dsimp only at hr
    subst hr
    try dsimp only
    refine wp_bnd (R := fun _ => True) ?_ fun b2 _ => ?_
    · refine wp_ite (fun _ => ?_) fun _ => trivial
      walk_at "t"
      trivial
    refine wp_ite (fun _ => ?_) fun _ => ?_
    · walk_at "t"
      exact ⟨em _, hl, by dsimp only; omega, by dsimp only; omega⟩
    · have k1 := Int.emod_nonneg v (b := 2147483563) (by decide)
      have k2 := Int.emod_lt_of_pos v (b := 2147483563) (by decide)
      walk_at "t"
      have k3 := Int.emod_nonneg ((v % 2147483563 + 74561 * p + 8179) ^ (5 : Int).toNat) (b := 2147483629) (by decide)
      have k4 := Int.emod_lt_of_pos ((v % 2147483563 + 74561 * p + 8179) ^ (5 : Int).toNat) (b := 2147483629) (by decide)
      generalize (v % 2147483563 + 74561 * p + 8179) ^ (5 : Int).toNat % 2147483629 = m at k3 k4 ⊢
      have pb := pw_bound k3 (Int.lt_trans k4 (by decide)) hlo (by omega) (c1 := 2459) (c2 := 63079) (c3 := 93703) (by decide) (by decide) (by decide)
      generalize m * (2 * p + 2459) + 63079 * p * p + 93703 = q at pb ⊢
      refine wp_bok (pwR_ok ⟨by decide, by decide, pb⟩) ?_
      walk_at "t"
      exact ⟨em _, hl, by dsimp only; omega, by dsimp only; omega⟩
theorem tap_wp (l : List Int) : (m_law_tap l).wp (TapOk 0) := by
  unfold m_law_tap
  have h := cut60 l 60 (by decide)
  refine wp_bok (lcM_ok (by omega)) ?_
  exact ⟨by dsimp only; rw [List.length_map]; exact h, Int.le_refl 0, Int.le_refl 0⟩
theorem any_wp {b : Int} {t : TapT} {some : List Int} (h : TapOk b t) (hb : b ≤ 1000000) (h0 : 0 < some.length) (h1 : some.length < 1000000) : (m_law_any t some).wp fun r => r.1 ∈ some ∧ TapOk (b + 1) r.2 := by
  unfold m_law_any
  refine wp_bnd (drip_wp h hb (by omega) (by omega)) fun r hr => ?_
  refine wp_bok (ixR_ok hr.1.1 hr.1.2) ?_
  exact ⟨List.getElem_mem _, hr.2⟩
end K10

set_option Elab.async false
set_option linter.all false
set_option maxRecDepth 100000
set_option maxHeartbeats 4000000
namespace K10
open PySem PySem.Spec PyProof.Rows L2 Rl RZ RT Px Ty
local macro_rules | `(tactic| walk_at "num") => `(tactic| first | assumption | omega | decide)
local macro_rules | `(tactic| walk_at "ok") => `(tactic| with_reducible first
  | (refine wp_bok (mdR_ok ?_) ?_; (· with_unfolding_all walk_at "num"))
  | (refine wp_bok (fdR_ok ?_ ?_) ?_; (· with_unfolding_all walk_at "num"); (· with_unfolding_all walk_at "num"))
  | (refine wp_bok (rngR_ok ⟨⟨?_, ?_⟩, ?_, ?_⟩) ?_; (· with_unfolding_all walk_at "num"); (· with_unfolding_all walk_at "num"); (· with_unfolding_all walk_at "num"); (· with_unfolding_all walk_at "num"))
  | (refine wp_bok (mulR_l ?_) ?_; (· with_unfolding_all walk_at "num"))
  | (refine wp_bok (mulR_r ?_) ?_; (· with_unfolding_all walk_at "num"))
  | (refine wp_bok (ixR_ok ?_ ?_) ?_; (· with_unfolding_all walk_at "num"); (· with_unfolding_all walk_at "num"))
  | (refine wp_bok (lcM_ok ?_) ?_; (· with_unfolding_all walk_at "num"))
  | (refine wp_bok (lcF_ok ?_) ?_; (· with_unfolding_all walk_at "num"))
  | (refine wp_bok (addL_ok ?_) ?_; (· with_unfolding_all walk_at "num"))
  | (refine wp_bok (appR_ok ?_) ?_; (· with_unfolding_all walk_at "num"))
  | (refine wp_bok (setR_ok ?_ ?_) ?_; (· with_unfolding_all walk_at "num"); (· with_unfolding_all walk_at "num"))
  | (refine wp_bok (pwR_ok ⟨?_, ?_, ?_⟩) ?_; (· with_unfolding_all walk_at "num"); (· with_unfolding_all walk_at "num"); (· with_unfolding_all walk_at "num")))
local macro_rules | `(tactic| walk_at "t") => `(tactic| (repeat ((try dsimp only); walk_at "ok")); try dsimp only)
/-! ### gains that are drawn -/
theorem dr_seq {υ : Type} {step : Int → TapT → Res (Option υ × TapT)} {b : Int} {n : Int} {t : TapT} (P : υ → Prop) (h : TapOk b t) (hn : 0 ≤ n) (hb : b + n ≤ 1000000)
    (hs : ∀ x c t, 0 ≤ x → x < n → TapOk c t → c ≤ 1000000 → (step x t).wp fun r => ∃ y, r.1 = some y ∧ P y ∧ TapOk (c + 1) r.2) : (lcS step (irng 0 (n - 0).toNat) [] t).wp fun r => r.1.length = n.toNat ∧ (∀ y ∈ r.1, P y) ∧ TapOk (b + n) r.2 := by
  have b0 := h.b0
  rw [Int.sub_zero]
  refine lcS_wp (fun i acc t => acc.length = i ∧ (∀ y ∈ acc, P y) ∧ TapOk (b + i) t) _ 0 [] t (Nat.zero_le _) (by rw [irng_len']; omega) ⟨rfl, (fun y hy => by cases hy), by simpa using h⟩ (fun i x acc t hx hi => ?_) fun acc t hi => ?_
  · have c : i < n.toNat := by
      have z := (List.getElem?_eq_some_iff.mp hx).1
      rwa [irng_len'] at z
    have hx := mem_irng.mp (List.mem_of_getElem? hx)
    rw [Nat.zero_add] at hi
    refine (hs x (b + i) t hx.1 (by omega) hi.2.2 (by omega)).mono fun r hr => ?_
    obtain ⟨y, e, py, tk⟩ := hr
    rw [e]
    refine ⟨by simp [hi.1], fun z hz => ?_, by rw [show b + ((0 + i + 1 : Nat) : Int) = b + i + 1 by omega]; exact tk⟩
    rcases List.mem_append.mp hz with g | g
    · exact hi.2.1 z g
    · rw [List.mem_singleton.mp g]; exact py
  · rw [Nat.zero_add, irng_len'] at hi
    exact ⟨hi.1, hi.2.1, by rw [show (n.toNat : Int) = n by omega] at hi; exact hi.2.2⟩
/-- .. with a state that stays -/
theorem lcS_pick {τ υ S : Type} {step : τ → S → Res (Option υ × S)} {s : S} {xs : List τ} (f : τ → υ) (hl : xs.length ≤ 16777216) (hg : ∀ x ∈ xs, step x s = .ok (some (f x), s)) : lcS step xs [] s = .ok (xs.map f, s) := by
  have key : ∀ (ys : List τ) (acc : List υ), acc.length + ys.length ≤ 16777216 → (∀ x ∈ ys, step x s = .ok (some (f x), s)) → lcS step ys acc s = .ok (acc ++ ys.map f, s) := fun ys => by
    induction ys with
    | nil => intro acc _ _; simp [lcS]
    | cons y ys ih =>
      intro acc h hy
      rw [List.length_cons] at h
      unfold lcS
      rw [hy y (List.mem_cons_self ..), bind_ok]
      show (if acc.length + 1 ≤ 16777216 then _ else _) = _
      rw [if_pos (by omega), ih (acc ++ [f y]) (by rw [List.length_append, List.length_singleton]; omega) fun x hx => hy x (List.mem_cons_of_mem _ hx), List.map_cons, List.append_assoc]; rfl
  exact key xs [] (by simpa using hl) hg
theorem gains_wp {b days : Int} {t : TapT} (h : TapOk b t) (hb : b ≤ 900000) (h0 : 0 < days) (h1 : days ≤ 48) : (m_law_gains t days).wp fun r => r.1.length = days.toNat ∧ TapOk (b + 60) r.2 := by
  unfold m_law_gains
  refine wp_bnd (drip_wp h (by omega) (by decide) (by decide)) fun r2 hr => ?_
  obtain ⟨h2, tk⟩ := hr
  try dsimp only
  refine wp_ite (fun _ => ?_) fun _ => wp_ite (fun _ => ?_) fun _ => wp_ite (fun _ => ?_) fun _ => ?_
  · walk_at "t"
    refine wp_bnd (dr_seq (fun _ => True) (n := days) tk (by omega) (by omega) fun x c t _ _ tc hc => ?_) fun r hr => ⟨by simpa using hr.1, hr.2.2.mono (by omega)⟩
    rw [if_pos rfl]
    exact wp_bnd (drip_wp tc hc (by decide) (by decide)) fun r hr => ⟨_, rfl, trivial, hr.2⟩
  · walk_at "t"
    refine wp_bnd (dr_seq (fun _ => True) (n := days) tk (by omega) (by omega) fun x c t _ _ tc hc => ?_) fun r hr => ⟨by simpa using hr.1, hr.2.2.mono (by omega)⟩
    rw [if_pos rfl]
    exact wp_bnd (any_wp tc hc (by decide) (by decide)) fun r hr => ⟨_, rfl, trivial, hr.2⟩
  · walk_at "t"
    refine wp_bnd (dr_seq (fun _ => True) (n := days) tk (by omega) (by omega) fun x c t _ _ tc hc => ?_) fun r hr => ⟨by simpa using hr.1, hr.2.2.mono (by omega)⟩
    rw [if_pos rfl]
    walk_at "t"
    exact wp_bnd (any_wp tc hc (Nat.le_of_ble_eq_true rfl) (Nat.lt_of_lt_of_le (Nat.lt_succ_self 6) (by decide))) fun r hr => ⟨_, rfl, trivial, hr.2⟩
  · refine wp_bnd (drip_wp tk (by omega) (by decide) (by decide)) fun r27 hr => ?_
    obtain ⟨h5, tk⟩ := hr
    walk_at "t"
    refine wp_bnd (dr_seq (fun _ => True) (n := 1 + r27.1) tk (by omega) (by omega) fun x c t _ _ tc hc => ?_) fun r29 hr => ?_
    · rw [if_pos rfl]
      exact wp_bnd (drip_wp tc hc (by decide) (by decide)) fun r hr => ⟨_, rfl, trivial, hr.2⟩
    obtain ⟨hl, _, tk⟩ := hr
    obtain ⟨few, t3⟩ := r29
    dsimp only at hl tk ⊢
    refine wp_bnd (R := fun q => q.2.1 = t3 ∧ q.2.2.length = few.length) ?_ fun q hq => ?_
    · refine wp_ite (fun _ => ?_) fun _ => ⟨rfl, rfl⟩
      walk_at "t"
      exact ⟨rfl, List.length_set⟩
    obtain ⟨_, s1, few2⟩ := q
    obtain ⟨rfl, hl2⟩ := hq
    dsimp only at hl2 ⊢
    walk_at "t"
    have hpos : 0 < few2.length := by omega
    have e0 : ∀ x : Int, 0 ≤ x % (few2.length : Int) ∧ x % (few2.length : Int) < few2.length := fun x => ⟨Int.emod_nonneg _ (by omega), Int.emod_lt_of_pos _ (by omega)⟩
    refine wp_bok (a := ((irng 0 (days - 0).toNat).map fun x => few2.getD (x % (few2.length : Int)).toNat 0, (s1, few2))) ?_ ?_
    · refine lcS_pick (xs := irng 0 (days - 0).toNat) _ (by rw [irng_len']; omega) fun x hx => ?_
      try dsimp only
      rw [if_pos rfl, mdR_ok (by omega), bind_ok, ixR_ok (e0 x).1 (e0 x).2, bind_ok, List.getD_eq_getElem?_getD, List.getElem?_eq_getElem]
      rfl
    · dsimp only
      refine wp_bnd (R := fun q => q.2.2.length = days.toNat ∧ TapOk (b + 60) q.2.1.1) ?_ fun q hq => hq
      have el : ((irng 0 (days - 0).toNat).map fun x => few2.getD (x % (few2.length : Int)).toNat 0).length = days.toNat := by rw [List.length_map, irng_len']; omega
      refine wp_ite (fun _ => ?_) fun _ => ⟨el, tk.mono (by omega)⟩
      refine wp_bnd (drip_wp tk (by omega) h0 (by omega)) fun r58 hr => ?_
      try dsimp only
      refine wp_bok (ixR_ok hr.1.1 (by rw [el]; omega)) ?_
      refine wp_bnd (any_wp hr.2 (by omega) (by decide) (by decide)) fun r62 hr2 => ?_
      try dsimp only
      refine wp_bok (setR_ok hr.1.1 (by rw [el]; omega)) ?_
      exact ⟨by dsimp only; rw [List.length_set]; exact el, hr2.2.mono (by omega)⟩
end K10

set_option Elab.async false
set_option linter.all false
set_option maxRecDepth 100000
set_option maxHeartbeats 4000000
namespace K10
open PySem PySem.Spec PyProof.Rows L2 Rl RZ RT Px Ty
local macro_rules | `(tactic| walk_at "num") => `(tactic| first | assumption | omega | decide)
local macro_rules | `(tactic| walk_at "ok") => `(tactic| with_reducible first
  | (refine wp_bok (mdR_ok ?_) ?_; (· with_unfolding_all walk_at "num"))
  | (refine wp_bok (fdR_ok ?_ ?_) ?_; (· with_unfolding_all walk_at "num"); (· with_unfolding_all walk_at "num"))
  | (refine wp_bok (rngR_ok ⟨⟨?_, ?_⟩, ?_, ?_⟩) ?_; (· with_unfolding_all walk_at "num"); (· with_unfolding_all walk_at "num"); (· with_unfolding_all walk_at "num"); (· with_unfolding_all walk_at "num"))
  | (refine wp_bok (mulR_l ?_) ?_; (· with_unfolding_all walk_at "num"))
  | (refine wp_bok (mulR_r ?_) ?_; (· with_unfolding_all walk_at "num"))
  | (refine wp_bok (ixR_ok ?_ ?_) ?_; (· with_unfolding_all walk_at "num"); (· with_unfolding_all walk_at "num"))
  | (refine wp_bok (lcM_ok ?_) ?_; (· with_unfolding_all walk_at "num"))
  | (refine wp_bok (lcF_ok ?_) ?_; (· with_unfolding_all walk_at "num"))
  | (refine wp_bok (addL_ok ?_) ?_; (· with_unfolding_all walk_at "num"))
  | (refine wp_bok (appR_ok ?_) ?_; (· with_unfolding_all walk_at "num"))
  | (refine wp_bok (setR_ok ?_ ?_) ?_; (· with_unfolding_all walk_at "num"); (· with_unfolding_all walk_at "num"))
  | (refine wp_bok (pwR_ok ⟨?_, ?_, ?_⟩) ?_; (· with_unfolding_all walk_at "num"); (· with_unfolding_all walk_at "num"); (· with_unfolding_all walk_at "num")))
local macro_rules | `(tactic| walk_at "t") => `(tactic| (repeat ((try dsimp only); walk_at "ok")); try dsimp only)
/-! ### rows -/
def hs : Int → List Int → List Int
  | s, [] => [s]
  | s, x :: xs => s :: hs (s + x) xs
def hts (l : List Int) : List Int := hs 0 l
theorem hs_len : ∀ (s : Int) (l : List Int), (hs s l).length = l.length + 1
  | _, [] => rfl
  | s, x :: xs => by simp [hs, hs_len]
theorem hs_app : ∀ (s : Int) (l : List Int) (x : Int), hs s (l ++ [x]) = hs s l ++ [s + l.sum + x]
  | s, [], x => by simp [hs]
  | s, y :: l, x => by
    have e : s + y + l.sum + x = s + (y + l.sum) + x := by omega
    simp only [List.cons_append, hs, hs_app, List.sum_cons, e]
theorem hs_get : ∀ (s : Int) (l : List Int) (i : Nat), i ≤ l.length → (hs s l)[i]? = some (s + (l.take i).sum)
  | s, [], i, h => by
    have : i = 0 := by simpa using h
    subst this; simp [hs]
  | s, x :: xs, 0, h => by simp [hs]
  | s, x :: xs, i + 1, h => by
    have z := hs_get (s + x) xs i (by simpa using h)
    simp only [hs, List.getElem?_cons_succ, z, List.take_succ_cons, List.sum_cons]
    congr 1; omega
theorem hts_len (l : List Int) : (hts l).length = l.length + 1 := hs_len 0 l
theorem hts_get (l : List Int) {i : Nat} (h : i ≤ l.length) : (hts l)[i]? = some (l.take i).sum := by
  unfold hts; rw [hs_get 0 l i h, Int.zero_add]
theorem hts_app (l : List Int) (x : Int) : hts (l ++ [x]) = hts l ++ [l.sum + x] := by
  unfold hts; rw [hs_app, Int.zero_add]
theorem hts_last (l : List Int) : ∃ h, hts l = h ++ [l.sum] := by
  refine ⟨(hts l).take l.length, ?_⟩
  have e : (hts l).length = l.length + 1 := hts_len l
  refine List.ext_getElem? fun i => ?_
  by_cases c : i < l.length
  · rw [List.getElem?_append_left (by rw [List.length_take]; omega), List.getElem?_take_of_lt c]
  · by_cases c2 : i = l.length
    · subst c2
      rw [hts_get l (Nat.le_refl _), List.take_length, List.getElem?_append_right (by rw [List.length_take]; omega), List.length_take]
      simp [e]
    · rw [List.getElem?_eq_none (by omega), List.getElem?_eq_none (by rw [List.length_append, List.length_take, List.length_singleton]; omega)]
theorem cut_eq {l : List Int} {b n : Nat} (h : b + n ≤ l.length) : Px.cutD l (some (b : Int)) (some ((b : Int) + n)) = (l.drop b).take n := by
  unfold Px.cutD HT.sIx
  simp only []
  rw [if_neg (by omega), if_neg (by omega), show min (b : Int).toNat l.length = b by omega, show min ((b : Int) + n).toNat l.length - b = n by omega]
theorem cut_from {l : List Int} {n : Nat} : Px.cutD l (some (n : Int)) none = l.drop n := by
  unfold Px.cutD HT.sIx
  simp only []
  rw [if_neg (by omega)]
  by_cases h : n ≤ l.length
  · rw [show min (n : Int).toNat l.length = n by omega, List.take_of_length_le (by rw [List.length_drop]; omega)]
  · rw [show min (n : Int).toNat l.length = l.length by omega, List.drop_of_length_le (by omega : l.length ≤ n)]; simp
/-- all sums of a length, begin by begin -/
def S (l : List Int) (n : Nat) : List Int := (List.range (l.length + 1 - n)).map fun b => ((l.drop b).take n).sum
theorem S_len (l : List Int) (n : Nat) : (S l n).length = l.length + 1 - n := by simp [S]
theorem S_get {l : List Int} {n b : Nat} (h : b + n ≤ l.length) : (S l n)[b]? = some ((l.drop b).take n).sum := by
  unfold S; rw [List.getElem?_map, List.getElem?_range (by omega)]; rfl
theorem stretch (l : List Int) (b n : Nat) : (l.take (b + n)).sum - (l.take b).sum = ((l.drop b).take n).sum := by
  rw [List.take_add, List.sum_append]; omega
abbrev row (l : List Int) : R_Row_0 := ⟨l, hts l, l.length, l.sum⟩
theorem are_integers_ok {l : List Int} (h : l.length ≤ 16777216) : m_are_integers l = .ok true := by
  unfold m_are_integers
  rw [if_pos rfl, lcR_map (fun _ => true) h fun x _ => by unfold m_is_integer; rfl]
  have e : (l.map fun _ => true).all id = true := by simp
  show Res.ok ((l.map fun _ => true).all id) = _
  rw [e]
theorem heights_ok {l : List Int} (h : l.length ≤ 1000000) : m_heights_of l = .ok (hts l) := by
  unfold m_heights_of
  refine (forR_to (f := fun p : List Int => ((), ((), hts p))) (xs := l) fun pre x post e => ?_).trans rfl
  have hl : pre.length + 1 ≤ l.length := by rw [e, List.length_append, List.length_cons]; omega
  obtain ⟨q, hq⟩ := hts_last pre
  try dsimp only
  rw [show ixR (hts pre) (-1) = .ok pre.sum by rw [hq]; exact ixR_app, bind_ok, appR_ok (by rw [hts_len]; omega), bind_ok, hts_app]
theorem row_ok {l : List Int} (h0 : 0 < l.length) (h : l.length ≤ 48) : m_Row_init l = .ok (row l) := by
  unfold m_Row_init
  rw [are_integers_ok (by omega), bind_ok, if_neg (by simp; intro e; subst e; simp at h0), if_neg (by simp; omega)]
  obtain ⟨q, hq⟩ := hts_last l
  try dsimp only
  rw [heights_ok (by omega), bind_ok, show ixR (hts l) (-1) = .ok l.sum by rw [hq]; exact ixR_app, bind_ok]
theorem need_number_ok {x a b : Int} {p : Str} (h : a ≤ x ∧ x ≤ b) : m_need_number x p a b = .ok () := by
  unfold m_need_number m_is_within m_is_integer
  simp [bind_ok, h.1, h.2]
theorem are_integers1_ok {l : List Int} (h : l.length ≤ 16777216) : m_are_integers_1 l = .ok true := by
  unfold m_are_integers_1
  rw [if_pos rfl, lcR_map (fun _ => true) h fun x _ => by unfold m_is_integer; rfl]
  have e : (l.map fun _ => true).all id = true := by simp
  show Res.ok ((l.map fun _ => true).all id) = _
  rw [e]
theorem heights1_ok {l : List Int} (h : l.length ≤ 1000000) : m_heights_of_1 l = .ok (hts l) := by
  unfold m_heights_of_1
  refine (forR_to (f := fun p : List Int => ((), ((), hts p))) (xs := l) fun pre x post e => ?_).trans rfl
  have hl : pre.length + 1 ≤ l.length := by rw [e, List.length_append, List.length_cons]; omega
  obtain ⟨q, hq⟩ := hts_last pre
  try dsimp only
  rw [show ixR (hts pre) (-1) = .ok pre.sum by rw [hq]; exact ixR_app, bind_ok, appR_ok (by rw [hts_len]; omega), bind_ok, hts_app]
theorem row1_ok {l : List Int} (h0 : 0 < l.length) (h : l.length ≤ 48) : m_Row_init_1 l = .ok (row l) := by
  unfold m_Row_init_1
  rw [are_integers1_ok (by omega), bind_ok, if_neg (by simp; intro e; subst e; simp at h0), if_neg (by simp; omega)]
  obtain ⟨q, hq⟩ := hts_last l
  try dsimp only
  rw [heights1_ok (by omega), bind_ok, show ixR (hts l) (-1) = .ok l.sum by rw [hq]; exact ixR_app, bind_ok]

theorem need_any_ok {x : Int} {p : Str} : m_need_number_1 x p () () = .ok () := by
  unfold m_need_number_1 m_is_within_1 m_is_integer
  simp [bind_ok]
theorem times_ok {l : List Int} {c : Int} (hc : c.natAbs < 2 ^ 64) (h0 : 0 < l.length) (h : l.length ≤ 48) : m_Row_times (row l) c = .ok (row (l.map fun x => c * x)) := by
  unfold m_Row_times
  rw [need_any_ok, bind_ok, lcR_map (fun x => c * x) (by dsimp only; omega) fun x _ => by rw [mulR_l hc, bind_ok], bind_ok, row_ok (by rw [List.length_map]; exact h0) (by rw [List.length_map]; exact h), bind_ok]
theorem back_ok {l : List Int} (h0 : 0 < l.length) (h : l.length ≤ 48) : m_Row_backwards (row l) = .ok (row l.reverse) := by
  unfold m_Row_backwards
  rw [row1_ok (by rw [List.length_reverse]; exact h0) (by rw [List.length_reverse]; exact h), bind_ok]
theorem plus_ok {l : List Int} {c : Int} (h0 : 0 < l.length) (h : l.length ≤ 48) : m_Row_plus (row l) c = .ok (row (l.map fun x => x + c)) := by
  unfold m_Row_plus
  rw [need_any_ok, bind_ok, lcM_ok (by dsimp only; omega), bind_ok, row_ok (by rw [List.length_map]; exact h0) (by rw [List.length_map]; exact h), bind_ok]

theorem joined_ok {l o : List Int} (h0 : 0 < l.length) (h : l.length + o.length ≤ 48) : m_Row_joined (row l) (row o) = .ok (row (l ++ o)) := by
  unfold m_Row_joined m_need_row
  have e : szR ((row l).gains ++ ((row o).gains ++ [])) = .ok (l ++ o) := by
    show szR (l ++ (o ++ [])) = _
    rw [List.append_nil]
    exact if_pos (by rw [List.length_append]; omega)
  rw [bind_ok, e, bind_ok, row_ok (by rw [List.length_append]; omega) (by rw [List.length_append]; omega), bind_ok]
theorem added_ok {l o : List Int} (h0 : 0 < l.length) (h : l.length ≤ 48) (he : o.length = l.length) : m_Row_added (row l) (row o) = .ok (row ((l.zip o).map fun x => x.1 + x.2)) := by
  unfold m_Row_added m_need_row
  have e : (l.zip o).length = l.length := by rw [List.length_zip]; omega
  have em : ((l.zip o).map fun x => x.1 + x.2).length = l.length := by rw [List.length_map]; exact e
  have el : lcM (fun (x : Int × Int) => x.1 + x.2) ((row l).gains.zip (row o).gains) = .ok ((l.zip o).map fun x => x.1 + x.2) := lcM_ok (by show (l.zip o).length ≤ _; omega)
  rw [bind_ok, if_neg (by simp [he]), el, bind_ok, row_ok (by omega) (by omega), bind_ok]
end K10

set_option Elab.async false
set_option linter.all false
set_option maxRecDepth 100000
set_option maxHeartbeats 4000000
namespace K10
open PySem PySem.Spec PyProof.Rows L2 Rl RZ RT Px Ty
local macro_rules | `(tactic| walk_at "num") => `(tactic| first | assumption | omega | decide)
local macro_rules | `(tactic| walk_at "ok") => `(tactic| with_reducible first
  | (refine wp_bok (mdR_ok ?_) ?_; (· with_unfolding_all walk_at "num"))
  | (refine wp_bok (fdR_ok ?_ ?_) ?_; (· with_unfolding_all walk_at "num"); (· with_unfolding_all walk_at "num"))
  | (refine wp_bok (rngR_ok ⟨⟨?_, ?_⟩, ?_, ?_⟩) ?_; (· with_unfolding_all walk_at "num"); (· with_unfolding_all walk_at "num"); (· with_unfolding_all walk_at "num"); (· with_unfolding_all walk_at "num"))
  | (refine wp_bok (mulR_l ?_) ?_; (· with_unfolding_all walk_at "num"))
  | (refine wp_bok (mulR_r ?_) ?_; (· with_unfolding_all walk_at "num"))
  | (refine wp_bok (ixR_ok ?_ ?_) ?_; (· with_unfolding_all walk_at "num"); (· with_unfolding_all walk_at "num"))
  | (refine wp_bok (lcM_ok ?_) ?_; (· with_unfolding_all walk_at "num"))
  | (refine wp_bok (lcF_ok ?_) ?_; (· with_unfolding_all walk_at "num"))
  | (refine wp_bok (addL_ok ?_) ?_; (· with_unfolding_all walk_at "num"))
  | (refine wp_bok (appR_ok ?_) ?_; (· with_unfolding_all walk_at "num"))
  | (refine wp_bok (setR_ok ?_ ?_) ?_; (· with_unfolding_all walk_at "num"); (· with_unfolding_all walk_at "num"))
  | (refine wp_bok (pwR_ok ⟨?_, ?_, ?_⟩) ?_; (· with_unfolding_all walk_at "num"); (· with_unfolding_all walk_at "num"); (· with_unfolding_all walk_at "num")))
local macro_rules | `(tactic| walk_at "t") => `(tactic| (repeat ((try dsimp only); walk_at "ok")); try dsimp only)
/-! ### sorts -/
def wordI (s : List Int) : Str := if ∀ x ∈ s, 0 < x then "gains" else if ∀ x ∈ s, x < 0 then "loses" else if ∀ x ∈ s, x = 0 then "flat" else "mixed"
theorem need_length_ok {l : List Int} {n : Int} (h : 1 ≤ n ∧ n ≤ l.length) : m_need_length (row l) n = .ok () := by
  unfold m_need_length m_need_row
  rw [bind_ok, need_number_ok h, bind_ok]
theorem sums_in_ok {l : List Int} {n : Int} (hl : l.length ≤ 48) (h : 1 ≤ n ∧ n ≤ l.length) : m_sums_in (row l) n = .ok (S l n.toNat) := by
  unfold m_sums_in
  obtain ⟨k, rfl⟩ : ∃ k : Nat, n = k := ⟨n.toNat, by omega⟩
  rw [cut_from, lcM_ok (by rw [List.length_zip, hts_len]; omega), bind_ok]
  congr 1
  refine List.ext_getElem? fun i => ?_
  rw [List.getElem?_map]
  by_cases c : i + k ≤ l.length
  · rw [show (k : Int).toNat = k from rfl, S_get c, show ((hts l).zip ((hts l).drop k))[i]? = some ((l.take i).sum, (l.take (i + k)).sum) by
      rw [List.getElem?_zip_eq_some, List.getElem?_drop, hts_get l (by omega), hts_get l (show k + i ≤ l.length by omega), Nat.add_comm k i]; exact ⟨rfl, rfl⟩]
    show some ((l.take (i + k)).sum - (l.take i).sum) = _
    rw [stretch]
  · rw [List.getElem?_eq_none (by rw [List.length_zip, List.length_drop, hts_len]; omega), List.getElem?_eq_none (by rw [S_len]; omega)]; rfl
theorem sums_ok {l : List Int} {n : Int} (hl : l.length ≤ 48) (h : 1 ≤ n ∧ n ≤ l.length) : m_sums (row l) n = .ok (S l n.toNat) := by
  unfold m_sums
  rw [need_length_ok h, bind_ok, sums_in_ok hl h, bind_ok]
theorem law_sums_ok {l : List Int} {n : Int} (hl : l.length ≤ 48) (h : 1 ≤ n ∧ n ≤ l.length) : m_law_sums l n = .ok (S l n.toNat) := by
  unfold m_law_sums
  obtain ⟨k, rfl⟩ : ∃ k : Nat, n = k := ⟨n.toNat, by omega⟩
  rw [rngR_ok (by omega), bind_ok, lcM_ok (by rw [irng_len']; omega), bind_ok]
  congr 1
  refine List.ext_getElem? fun i => ?_
  rw [List.getElem?_map]
  by_cases c : i + k ≤ l.length
  · rw [show (k : Int).toNat = k from rfl, S_get c, irng_get (by omega)]
    show some (Px.cutD l (some (0 + (i : Int))) (some (0 + (i : Int) + k))).sum = _
    rw [Int.zero_add, cut_eq c]
  · rw [List.getElem?_eq_none (by rw [irng_len']; omega), List.getElem?_eq_none (by rw [S_len]; omega)]; rfl
theorem filt_all {s : List Int} (p : Int → Bool) : (s.filter p).length = s.length ↔ ∀ x ∈ s, p x = true := by
  rw [List.length_filter_eq_length_iff]
theorem filt_none {s : List Int} (p : Int → Bool) : (s.filter p).length = 0 ↔ ∀ x ∈ s, p x = false := by
  rw [List.length_eq_zero_iff, List.filter_eq_nil_iff]; simp
theorem law_word_ok {s : List Int} (hl : s.length ≤ 100) : m_law_word s = .ok (wordI s) := by
  unfold m_law_word wordI
  rw [lcF_ok (by omega), bind_ok, lcF_ok (by omega), bind_ok]
  try dsimp only
  rw [List.length_map, List.length_map]
  have e1 : (((s.filter fun x => decide (x > 0)).length : Int) = s.length) ↔ ∀ x ∈ s, 0 < x := by
    have z := filt_all (s := s) fun x => decide (x > 0)
    simp only [decide_eq_true_eq] at z
    rw [← z]; omega
  have e2 : (((s.filter fun x => decide (x < 0)).length : Int) = s.length) ↔ ∀ x ∈ s, x < 0 := by
    have z := filt_all (s := s) fun x => decide (x < 0)
    simp only [decide_eq_true_eq] at z
    rw [← z]; omega
  have e3 : (((s.filter fun x => decide (x > 0)).length : Int) + ((s.filter fun x => decide (x < 0)).length : Int) = 0) ↔ ∀ x ∈ s, x = 0 := by
    have z1 := filt_none (s := s) fun x => decide (x > 0)
    have z2 := filt_none (s := s) fun x => decide (x < 0)
    simp only [decide_eq_false_iff_not] at z1 z2
    constructor
    · intro h x hx
      have h1 := z1.mp (by omega) x hx
      have h2 := z2.mp (by omega) x hx
      omega
    · intro h
      have h1 := z1.mpr fun x hx => by have := h x hx; omega
      have h2 := z2.mpr fun x hx => by have := h x hx; omega
      omega
  simp only [decide_eq_true_eq, e1, e2, e3]
  split
  · rfl
  · split
    · rfl
    · rfl
theorem min_pos {s : List Int} (h : s ≠ []) (c : Int) : c < minL s ↔ ∀ x ∈ s, c < x := ⟨fun g x hx => Int.lt_of_lt_of_le g (minL_le hx), fun g => g _ (mem_minL h)⟩
theorem max_neg {s : List Int} (h : s ≠ []) (c : Int) : maxL s < c ↔ ∀ x ∈ s, x < c := ⟨fun g x hx => Int.lt_of_le_of_lt (le_maxL hx) g, fun g => g _ (mem_maxL h)⟩
theorem word_of_ok {s : List Int} (h : s ≠ []) : m_word_of s = .ok (wordI s) := by
  unfold m_word_of wordI
  rw [minR_ok h, bind_ok, maxR_ok h, bind_ok, bind_ok, bind_ok]
  have e1 : minL s > 0 ↔ ∀ x ∈ s, 0 < x := min_pos h 0
  have e2 : maxL s < 0 ↔ ∀ x ∈ s, x < 0 := max_neg h 0
  have e3 : (minL s = 0 ∧ maxL s = 0) ↔ ∀ x ∈ s, x = 0 := by
    constructor
    · intro ⟨h1, h2⟩ x hx
      have := minL_le hx
      have := le_maxL hx
      omega
    · intro g
      exact ⟨g _ (mem_minL h), g _ (mem_maxL h)⟩
  simp only [decide_eq_true_eq, e1, e2]
  split
  · rfl
  · split
    · rfl
    · by_cases c : minL s = 0
      · rw [if_pos c, bind_ok]
        by_cases c2 : maxL s = 0
        · rw [if_pos (e3.mp ⟨c, c2⟩)]; simp [c2]
        · rw [if_neg fun g => c2 (e3.mpr g).2]; simp [c2]
      · rw [if_neg c, bind_ok, if_neg fun g => c (e3.mpr g).1]; simp
theorem S_ne {l : List Int} {n : Nat} (h : n ≤ l.length) : S l n ≠ [] := fun e => by
  have z := S_len l n
  rw [e] at z
  simp at z; omega
theorem sort_of_ok {l : List Int} {n : Int} (hl : l.length ≤ 48) (h : 1 ≤ n ∧ n ≤ l.length) : m_sort_of (row l) n = .ok (wordI (S l n.toNat)) := by
  unfold m_sort_of
  rw [need_length_ok h, bind_ok, sums_in_ok hl h, bind_ok, word_of_ok (S_ne (by omega)), bind_ok]
def W (l : List Int) : List Str := (irng 1 l.length).map fun n => wordI (S l n.toNat)
theorem table_words_ok {l : List Int} (h0 : 0 < l.length) (hl : l.length ≤ 48) : m_table_words (row l) = .ok (W l) := by
  unfold m_table_words m_need_row
  try dsimp only
  rw [bind_ok, rngR_ok (by omega), bind_ok, show ((l.length : Int) + 1 - 1).toNat = l.length by omega, lcR_map (fun n => wordI (S l n.toNat)) (by rw [irng_len']; omega) fun x hx => ?_, bind_ok]
  · rfl
  · have hx := mem_irng.mp hx
    rw [sums_in_ok hl (by omega), bind_ok, word_of_ok (S_ne (by omega)), bind_ok]
theorem word_okS (s : List Int) : okS (wordI s) = true := by
  unfold wordI
  split
  · decide +kernel
  · split
    · decide +kernel
    · split <;> decide +kernel
theorem words_okS (l : List (List Int)) : okL okS (l.map wordI) = true := by
  unfold okL
  rw [List.all_map, List.all_eq_true]
  exact fun x _ => word_okS x
theorem S_one (l : List Int) : S l 1 = l := by
  refine List.ext_getElem? fun i => ?_
  by_cases c : i < l.length
  · have e : (l.drop i).take 1 = [l[i]'c] := by rw [List.drop_eq_getElem_cons c]; rfl
    rw [S_get (by omega), List.getElem?_eq_getElem c, e]; simp
  · rw [List.getElem?_eq_none (by rw [S_len]; omega), List.getElem?_eq_none (by omega)]
theorem S_all (l : List Int) : S l l.length = [l.sum] := by
  unfold S; rw [show l.length + 1 - l.length = 1 by omega]; simp [List.range_succ]
theorem S_step {l : List Int} {n i : Nat} {a b : Int} (h : i + 1 + n ≤ l.length) (ha : l[i]? = some a) (hb : l[i + n]? = some b) : ((l.drop (i + 1)).take n).sum - ((l.drop i).take n).sum = b - a := by
  have e1 := stretch l (i + 1) n
  have e2 := stretch l i n
  have e3 : (l.take (i + 1)).sum = (l.take i).sum + a := by rw [List.take_succ, ha]; simp
  have e4 : (l.take (i + 1 + n)).sum = (l.take (i + n)).sum + b := by rw [show i + 1 + n = i + n + 1 by omega, List.take_succ, hb]; simp
  omega
end K10

set_option Elab.async false
set_option linter.all false
set_option maxRecDepth 100000
set_option maxHeartbeats 4000000
namespace K10
open PySem PySem.Spec PyProof.Rows L2 Rl RZ RT Px Ty
local macro_rules | `(tactic| walk_at "num") => `(tactic| first | assumption | omega | decide)
local macro_rules | `(tactic| walk_at "ok") => `(tactic| with_reducible first
  | (refine wp_bok (mdR_ok ?_) ?_; (· with_unfolding_all walk_at "num"))
  | (refine wp_bok (fdR_ok ?_ ?_) ?_; (· with_unfolding_all walk_at "num"); (· with_unfolding_all walk_at "num"))
  | (refine wp_bok (rngR_ok ⟨⟨?_, ?_⟩, ?_, ?_⟩) ?_; (· with_unfolding_all walk_at "num"); (· with_unfolding_all walk_at "num"); (· with_unfolding_all walk_at "num"); (· with_unfolding_all walk_at "num"))
  | (refine wp_bok (mulR_l ?_) ?_; (· with_unfolding_all walk_at "num"))
  | (refine wp_bok (mulR_r ?_) ?_; (· with_unfolding_all walk_at "num"))
  | (refine wp_bok (ixR_ok ?_ ?_) ?_; (· with_unfolding_all walk_at "num"); (· with_unfolding_all walk_at "num"))
  | (refine wp_bok (lcM_ok ?_) ?_; (· with_unfolding_all walk_at "num"))
  | (refine wp_bok (lcF_ok ?_) ?_; (· with_unfolding_all walk_at "num"))
  | (refine wp_bok (addL_ok ?_) ?_; (· with_unfolding_all walk_at "num"))
  | (refine wp_bok (appR_ok ?_) ?_; (· with_unfolding_all walk_at "num"))
  | (refine wp_bok (setR_ok ?_ ?_) ?_; (· with_unfolding_all walk_at "num"); (· with_unfolding_all walk_at "num"))
  | (refine wp_bok (pwR_ok ⟨?_, ?_, ?_⟩) ?_; (· with_unfolding_all walk_at "num"); (· with_unfolding_all walk_at "num"); (· with_unfolding_all walk_at "num")))
local macro_rules | `(tactic| walk_at "t") => `(tactic| (repeat ((try dsimp only); walk_at "ok")); try dsimp only)
/-! ### one row turned about -/
def flip (s : Str) : Str := if s = "gains" then "loses" else if s = "loses" then "gains" else s
theorem wordI_cases (s : List Int) : wordI s = "gains" ∨ wordI s = "loses" ∨ wordI s = "flat" ∨ wordI s = "mixed" := by
  unfold wordI
  split
  · exact .inl rfl
  · split
    · exact .inr (.inl rfl)
    · split
      · exact .inr (.inr (.inl rfl))
      · exact .inr (.inr (.inr rfl))
theorem law_words_ok {l : List Int} (hl : l.length ≤ 48) : m_law_words l = .ok (W l) := by
  unfold m_law_words
  rw [rngR_ok (by omega), bind_ok, show ((l.length : Int) + 1 - 1).toNat = l.length by omega, lcR_map (fun n => wordI (S l n.toNat)) (by rw [irng_len']; omega) fun x hx => ?_, bind_ok]
  · rfl
  · have hx := mem_irng.mp hx
    rw [law_sums_ok hl (by omega), bind_ok, law_word_ok (by rw [S_len]; omega), bind_ok]
theorem W_okS (l : List Int) : okL okS (W l) = true := by
  unfold W
  rw [show (fun n : Int => wordI (S l n.toNat)) = wordI ∘ fun n => S l n.toNat from rfl, ← List.map_map]
  exact words_okS _
theorem wordI_congr {s t : List Int} (h : ∀ x, x ∈ s ↔ x ∈ t) : wordI s = wordI t := by
  unfold wordI
  simp only [h]
theorem wordI_pos {s : List Int} {c : Int} (hc : 0 < c) : wordI (s.map fun x => c * x) = wordI s := by
  have e1 : ∀ x : Int, 0 < c * x ↔ 0 < x := fun x => ⟨fun h => by
    rcases Int.lt_trichotomy x 0 with g | g | g
    · have := Int.mul_neg_of_pos_of_neg hc g; omega
    · rw [g, Int.mul_zero] at h; omega
    · exact g, fun h => Int.mul_pos hc h⟩
  have e2 : ∀ x : Int, c * x < 0 ↔ x < 0 := fun x => ⟨fun h => by
    rcases Int.lt_trichotomy x 0 with g | g | g
    · exact g
    · rw [g, Int.mul_zero] at h; omega
    · have := Int.mul_pos hc g; omega, fun h => Int.mul_neg_of_pos_of_neg hc h⟩
  have e3 : ∀ x : Int, c * x = 0 ↔ x = 0 := fun x => ⟨fun h => by
    have := e1 x; have := e2 x; omega, fun h => by rw [h, Int.mul_zero]⟩
  unfold wordI
  simp only [List.forall_mem_map, e1, e2, e3]
theorem wordI_neg {s : List Int} (hs : s ≠ []) : wordI (s.map fun x => -1 * x) = flip (wordI s) := by
  obtain ⟨y, hy⟩ : ∃ y, y ∈ s := List.exists_mem_of_ne_nil s hs
  have e1 : ∀ x : Int, 0 < -1 * x ↔ x < 0 := fun x => by omega
  have e2 : ∀ x : Int, -1 * x < 0 ↔ 0 < x := fun x => by omega
  have e3 : ∀ x : Int, -1 * x = 0 ↔ x = 0 := fun x => by omega
  unfold wordI
  simp only [List.forall_mem_map, e1, e2, e3]
  by_cases a : ∀ x ∈ s, 0 < x
  · have b : ¬ ∀ x ∈ s, x < 0 := fun z => by have := a y hy; have := z y hy; omega
    rw [if_neg b, if_pos a, if_pos a]; rfl
  · by_cases b : ∀ x ∈ s, x < 0
    · rw [if_pos b, if_neg a, if_pos b]; rfl
    · rw [if_neg b, if_neg a, if_neg a, if_neg b]
      split <;> rfl
end K10

set_option Elab.async false
set_option linter.all false
set_option maxRecDepth 100000
set_option maxHeartbeats 4000000
namespace K10
open PySem PySem.Spec PyProof.Rows L2 Rl RZ RT Px Ty
local macro_rules | `(tactic| walk_at "num") => `(tactic| first | assumption | omega | decide)
local macro_rules | `(tactic| walk_at "ok") => `(tactic| with_reducible first
  | (refine wp_bok (mdR_ok ?_) ?_; (· with_unfolding_all walk_at "num"))
  | (refine wp_bok (fdR_ok ?_ ?_) ?_; (· with_unfolding_all walk_at "num"); (· with_unfolding_all walk_at "num"))
  | (refine wp_bok (rngR_ok ⟨⟨?_, ?_⟩, ?_, ?_⟩) ?_; (· with_unfolding_all walk_at "num"); (· with_unfolding_all walk_at "num"); (· with_unfolding_all walk_at "num"); (· with_unfolding_all walk_at "num"))
  | (refine wp_bok (mulR_l ?_) ?_; (· with_unfolding_all walk_at "num"))
  | (refine wp_bok (mulR_r ?_) ?_; (· with_unfolding_all walk_at "num"))
  | (refine wp_bok (ixR_ok ?_ ?_) ?_; (· with_unfolding_all walk_at "num"); (· with_unfolding_all walk_at "num"))
  | (refine wp_bok (lcM_ok ?_) ?_; (· with_unfolding_all walk_at "num"))
  | (refine wp_bok (lcF_ok ?_) ?_; (· with_unfolding_all walk_at "num"))
  | (refine wp_bok (addL_ok ?_) ?_; (· with_unfolding_all walk_at "num"))
  | (refine wp_bok (appR_ok ?_) ?_; (· with_unfolding_all walk_at "num"))
  | (refine wp_bok (setR_ok ?_ ?_) ?_; (· with_unfolding_all walk_at "num"); (· with_unfolding_all walk_at "num"))
  | (refine wp_bok (pwR_ok ⟨?_, ?_, ?_⟩) ?_; (· with_unfolding_all walk_at "num"); (· with_unfolding_all walk_at "num"); (· with_unfolding_all walk_at "num")))
local macro_rules | `(tactic| walk_at "t") => `(tactic| (repeat ((try dsimp only); walk_at "ok")); try dsimp only)
theorem sum_mul (c : Int) : ∀ l : List Int, (l.map fun x => c * x).sum = c * l.sum
  | [] => by simp
  | x :: l => by simp only [List.map_cons, List.sum_cons, sum_mul c l, Int.mul_add]
theorem S_mul (l : List Int) (n : Nat) (c : Int) : S (l.map fun x => c * x) n = (S l n).map fun x => c * x := by
  unfold S
  rw [List.length_map, List.map_map]
  exact List.map_congr_left fun b _ => by
    show (((l.map fun x => c * x).drop b).take n).sum = c * ((l.drop b).take n).sum
    rw [← List.map_drop, ← List.map_take, sum_mul]
theorem sum_add (c : Int) : ∀ l : List Int, (l.map fun x => x + c).sum = l.sum + l.length * c
  | [] => by simp
  | x :: l => by
    simp only [List.map_cons, List.sum_cons, sum_add c l, List.length_cons]
    rw [show ((l.length + 1 : Nat) : Int) = l.length + 1 by omega, Int.add_mul]; omega
theorem S_add (l : List Int) (n : Nat) (c : Int) : S (l.map fun x => x + c) n = (S l n).map fun x => x + n * c := by
  unfold S
  rw [List.length_map, List.map_map]
  exact List.map_congr_left fun b hb => by
    have hb := List.mem_range.mp hb
    show (((l.map fun x => x + c).drop b).take n).sum = ((l.drop b).take n).sum + n * c
    rw [← List.map_drop, ← List.map_take, sum_add, List.length_take, List.length_drop, show min n (l.length - b) = n by omega]
theorem take_rev (l : List Int) (k : Nat) : (l.reverse.take k).sum = l.sum - (l.take (l.length - k)).sum := by
  rw [List.take_reverse, List.sum_reverse]
  have z := congrArg List.sum (List.take_append_drop (l.length - k) l)
  rw [List.sum_append] at z
  omega
theorem S_rev (l : List Int) (n : Nat) : S l.reverse n = (S l n).reverse := by
  refine List.ext_getElem? fun i => ?_
  by_cases c : i + n ≤ l.length
  · rw [S_get (by rw [List.length_reverse]; exact c), List.getElem?_reverse (by rw [S_len]; omega), S_len, S_get (by omega), ← stretch, ← stretch, take_rev, take_rev,
      show l.length + 1 - n - 1 - i + n = l.length - i by omega, show l.length - (i + n) = l.length + 1 - n - 1 - i by omega]
    congr 1; omega
  · rw [List.getElem?_eq_none (by rw [S_len, List.length_reverse]; omega), List.getElem?_eq_none (by rw [List.length_reverse, S_len]; omega)]
theorem W_map {l l' : List Int} {g : Str → Str} (hl : l'.length = l.length) (h : ∀ n : Nat, 1 ≤ n → n ≤ l.length → wordI (S l' n) = g (wordI (S l n))) : W l' = (W l).map g := by
  unfold W
  rw [hl, List.map_map]
  exact List.map_congr_left fun x hx => by
    have := mem_irng.mp hx
    exact h _ (by omega) (by omega)
theorem flat_rep (w : Str) : ∀ n : Nat, (List.replicate n [w]).flatten = List.replicate n w
  | 0 => rfl
  | n + 1 => by rw [List.replicate_succ, List.flatten_cons, flat_rep w n, List.replicate_succ]; rfl
theorem W_const {l : List Int} {w : Str} (h : ∀ n : Nat, 1 ≤ n → n ≤ l.length → wordI (S l n) = w) : W l = (List.replicate (l.length : Int).toNat [w]).flatten := by
  rw [flat_rep, List.eq_replicate_iff]
  unfold W
  refine ⟨by rw [List.length_map, irng_len']; omega, fun x hx => ?_⟩
  obtain ⟨n, hn, rfl⟩ := List.mem_map.mp hx
  have := mem_irng.mp hn
  exact h _ (by omega) (by omega)
theorem sum_pos : ∀ t : List Int, t ≠ [] → (∀ x ∈ t, 0 < x) → 0 < t.sum
  | [], h, _ => absurd rfl h
  | [x], _, h => by have := h x (by simp); simpa using this
  | x :: y :: t, _, h => by
    have a := h x (by simp)
    have b := sum_pos (y :: t) (by simp) fun z hz => h z (List.mem_cons_of_mem _ hz)
    rw [List.sum_cons]; omega
theorem S_pos {l : List Int} {n : Nat} (hn : 1 ≤ n) (h : ∀ x ∈ l, 0 < x) : ∀ y ∈ S l n, 0 < y := fun y hy => by
  unfold S at hy
  obtain ⟨b, hb, rfl⟩ := List.mem_map.mp hy
  have hb := List.mem_range.mp hb
  refine sum_pos _ (fun e => ?_) fun x hx => h x (List.mem_of_mem_drop (List.mem_of_mem_take hx))
  have z := congrArg List.length e
  rw [List.length_take, List.length_drop] at z
  simp at z; omega
theorem S_negs {l : List Int} {n : Nat} (hn : 1 ≤ n) (h : ∀ x ∈ l, x < 0) : ∀ y ∈ S l n, y < 0 := fun y hy => by
  have z := S_pos (l := l.map fun x => -1 * x) hn (fun x hx => by
    obtain ⟨w, hw, rfl⟩ := List.mem_map.mp hx
    have := h w hw; omega) (-1 * y) (by rw [S_mul]; exact List.mem_map.mpr ⟨y, hy, rfl⟩)
  omega
theorem flip_ok {l : List Int} : ∀ x ∈ W l, ((dgR [("gains", "loses"), ("loses", "gains")] x x).bind fun t => .ok t) = .ok (flip x) := fun x hx => by
  unfold W at hx
  obtain ⟨n, _, rfl⟩ := List.mem_map.mp hx
  rcases wordI_cases (S l n.toNat) with h | h | h | h <;> rw [h] <;> rfl
end K10

set_option Elab.async false
set_option linter.all false
set_option maxRecDepth 100000
set_option maxHeartbeats 4000000
namespace K10
open PySem PySem.Spec PyProof.Rows L2 Rl RZ RT Px Ty
local macro_rules | `(tactic| walk_at "num") => `(tactic| first | assumption | omega | decide)
local macro_rules | `(tactic| walk_at "ok") => `(tactic| with_reducible first
  | (refine wp_bok (mdR_ok ?_) ?_; (· with_unfolding_all walk_at "num"))
  | (refine wp_bok (fdR_ok ?_ ?_) ?_; (· with_unfolding_all walk_at "num"); (· with_unfolding_all walk_at "num"))
  | (refine wp_bok (rngR_ok ⟨⟨?_, ?_⟩, ?_, ?_⟩) ?_; (· with_unfolding_all walk_at "num"); (· with_unfolding_all walk_at "num"); (· with_unfolding_all walk_at "num"); (· with_unfolding_all walk_at "num"))
  | (refine wp_bok (mulR_l ?_) ?_; (· with_unfolding_all walk_at "num"))
  | (refine wp_bok (mulR_r ?_) ?_; (· with_unfolding_all walk_at "num"))
  | (refine wp_bok (ixR_ok ?_ ?_) ?_; (· with_unfolding_all walk_at "num"); (· with_unfolding_all walk_at "num"))
  | (refine wp_bok (lcM_ok ?_) ?_; (· with_unfolding_all walk_at "num"))
  | (refine wp_bok (lcF_ok ?_) ?_; (· with_unfolding_all walk_at "num"))
  | (refine wp_bok (addL_ok ?_) ?_; (· with_unfolding_all walk_at "num"))
  | (refine wp_bok (appR_ok ?_) ?_; (· with_unfolding_all walk_at "num"))
  | (refine wp_bok (setR_ok ?_ ?_) ?_; (· with_unfolding_all walk_at "num"); (· with_unfolding_all walk_at "num"))
  | (refine wp_bok (pwR_ok ⟨?_, ?_, ?_⟩) ?_; (· with_unfolding_all walk_at "num"); (· with_unfolding_all walk_at "num"); (· with_unfolding_all walk_at "num")))
local macro_rules | `(tactic| walk_at "t") => `(tactic| (repeat ((try dsimp only); walk_at "ok")); try dsimp only)
theorem repTR_ok {w : Str} {l : List Int} (h0 : 0 < l.length) (hl : l.length ≤ 48) (h : ∀ n : Nat, 1 ≤ n → n ≤ l.length → wordI (S l n) = w) : repTR [w] (l.length : Int) = .ok (W l) := by
  rw [W_const h]
  exact if_pos ⟨by simp, by omega, by simp⟩
theorem abs_le {l : List Int} (h : l.map (fun x : Int => (x.natAbs : Int)) ≠ []) : ∀ x ∈ l, -(1 + maxL (l.map fun x : Int => (x.natAbs : Int))) < x ∧ x < 1 + maxL (l.map fun x : Int => (x.natAbs : Int)) := fun x hx => by
  have z := le_maxL (List.mem_map.mpr ⟨x, hx, rfl⟩ : (x.natAbs : Int) ∈ l.map fun x : Int => (x.natAbs : Int))
  omega
theorem alone_right_wp {b : Int} {t : TapT} {l : List Int} (h : TapOk b t) (hb : b ≤ 900000) (h0 : 0 < l.length) (hl : l.length ≤ 48) : (m_law_alone_right t l).wp fun r => r.1 = true ∧ TapOk (b + 3) r.2 := by
  unfold m_law_alone_right
  rw [row_ok h0 hl, bind_ok, law_words_ok hl, bind_ok]
  try dsimp only
  rw [lcR_map flip (by unfold W; rw [List.length_map, irng_len']; omega) flip_ok, bind_ok, pwR_ok (by decide), bind_ok]
  refine wp_bnd (any_wp h (by omega) (Nat.le_of_ble_eq_true rfl) (Nat.lt_of_lt_of_le (Nat.lt_succ_self 4) (by decide))) fun r hr => ?_
  obtain ⟨hm, tk⟩ := hr
  obtain ⟨c0, tp⟩ := r
  dsimp only at tk hm ⊢
  have hc0 : 0 ≤ c0 ∧ c0 ≤ 1000000000 := by
    have hm : c0 ∈ ([0, 1, 6, 10 ^ (9 : Int).toNat] : List Int) := hm
    rcases List.mem_cons.mp hm with e | hm
    · omega
    · rcases List.mem_cons.mp hm with e | hm
      · omega
      · rcases List.mem_cons.mp hm with e | hm
        · omega
        · have e := List.mem_singleton.mp hm
          have e2 : (10 : Int) ^ (9 : Int).toNat = 1000000000 := by decide
          omega
  refine wp_bnd (drip_wp tk (by omega) (by omega) (by omega)) fun r hr => ?_
  obtain ⟨hd, tk⟩ := hr
  obtain ⟨d0, tp2⟩ := r
  dsimp only at tk hd ⊢
  obtain ⟨k, hk⟩ : ∃ k : Nat, 1 + d0 = k := ⟨(1 + d0).toNat, by omega⟩
  rw [hk]
  have hn : 1 ≤ (k : Int) ∧ (k : Int) ≤ l.length := by omega
  have hrl : l.reverse.length = l.length := List.length_reverse
  have wr : W l.reverse = W l := by
    have z := W_map (l := l) (l' := l.reverse) (g := id) hrl fun n h1 h2 => by rw [S_rev]; exact wordI_congr fun x => List.mem_reverse
    rw [z, List.map_id]
  have wp1 : W (l.map fun x => (1 + c0) * x) = W l := by
    have z := W_map (l := l) (l' := l.map fun x => (1 + c0) * x) (g := id) (List.length_map ..) fun n h1 h2 => by rw [S_mul]; exact wordI_pos (by omega)
    rw [z, List.map_id]
  have wn1 : W (l.map fun x => -(1 + c0) * x) = (W l).map flip := by
    have e : (l.map fun x => -(1 + c0) * x) = (l.map fun x => (1 + c0) * x).map fun x => -1 * x := by
      rw [List.map_map]
      exact List.map_congr_left fun x _ => by show -(1 + c0) * x = -1 * ((1 + c0) * x); rw [Int.neg_mul, Int.neg_mul, Int.one_mul]
    rw [e, W_map (l := l.map fun x => (1 + c0) * x) (g := flip) (List.length_map ..) fun n h1 h2 => by
      rw [List.length_map] at h2
      rw [show (fun x : Int => -1 * x) = fun x => (-1) * x from rfl, S_mul]
      exact wordI_neg (S_ne (by rw [List.length_map]; exact h2)), wp1]
  have w0 : ∀ n : Nat, 1 ≤ n → n ≤ (l.map fun x => 0 * x).length → wordI (S (l.map fun x => 0 * x) n) = "flat" := fun n h1 h2 => by
    rw [List.length_map] at h2
    rw [S_mul]
    have ne := S_ne h2
    obtain ⟨y, hy⟩ := List.exists_mem_of_ne_nil _ ne
    unfold wordI
    simp only [List.forall_mem_map, Int.zero_mul]
    rw [if_neg (fun z => by have := z y hy; omega), if_neg (fun z => by have := z y hy; omega), if_pos (fun _ _ => trivial)]
  have r0 : repTR [("flat" : Str)] (l.length : Int) = .ok (W (l.map fun x => 0 * x)) := by
    have z := repTR_ok (l := l.map fun x => 0 * x) (by rw [List.length_map]; exact h0) (by rw [List.length_map]; exact hl) w0
    rwa [List.length_map] at z
  have hm : ∀ p : Int → Int, 0 < (l.map p).length ∧ (l.map p).length ≤ 48 := fun p => by rw [List.length_map]; exact ⟨h0, hl⟩
  have okf : okL okS ((W l).map flip) = true := by rw [← wn1]; exact W_okS _
  rw [back_ok h0 hl, bind_ok, table_words_ok (by omega) (by omega), bind_ok, wr, eqR_ok (W_okS _) (W_okS _), bind_ok]
  simp only [bind_ok, decide_true, Bool.not_true, Bool.false_eq_true, if_false]
  rw [sums_ok (by omega) (by omega), bind_ok, law_sums_ok hl hn, bind_ok, show (k : Int).toNat = k from rfl, S_rev]
  simp only [bind_ok, decide_true, Bool.not_true, Bool.false_eq_true, if_false]
  rw [times_ok (c := 1 + c0) (by omega) h0 hl, bind_ok, table_words_ok (hm _).1 (hm _).2, bind_ok, wp1, eqR_ok (W_okS _) (W_okS _), bind_ok]
  simp only [bind_ok, decide_true, Bool.not_true, Bool.false_eq_true, if_false]
  rw [times_ok (c := -(1 + c0)) (by omega) h0 hl, bind_ok, table_words_ok (hm _).1 (hm _).2, bind_ok, wn1, eqR_ok okf okf, bind_ok]
  simp only [bind_ok, decide_true, Bool.not_true, Bool.false_eq_true, if_false]
  rw [times_ok (c := 0) (by decide) h0 hl, bind_ok, table_words_ok (hm _).1 (hm _).2, bind_ok, r0, bind_ok, eqR_ok (W_okS _) (W_okS _), bind_ok]
  simp only [bind_ok, decide_true, Bool.not_true, Bool.false_eq_true, if_false]
  refine wp_bnd (any_wp tk (by omega) (by decide) (by decide)) fun r hr => ?_
  obtain ⟨_, tk⟩ := hr
  obtain ⟨m, tp3⟩ := r
  dsimp only at tk ⊢
  rw [plus_ok h0 hl, bind_ok, sums_ok (by rw [List.length_map]; exact hl) (by rw [List.length_map]; exact hn), bind_ok, show (k : Int).toNat = k from rfl,
    lcR_map (fun x => x + k * m) (by rw [S_len]; omega) fun x _ => by rw [mulR_l (by omega), bind_ok], bind_ok, S_add]
  simp only [decide_true, Bool.not_true, Bool.false_eq_true, if_false]
  have nm : l.map (fun x : Int => (x.natAbs : Int)) ≠ [] := fun e => by
    have z := congrArg List.length e
    rw [List.length_map, List.length_nil] at z; omega
  rw [lcM_ok (by omega), bind_ok, maxR_ok nm, bind_ok]
  have ab := abs_le nm
  generalize maxL (l.map fun x : Int => (x.natAbs : Int)) = g at ab ⊢
  have up : ∀ n : Nat, 1 ≤ n → n ≤ (l.map fun x => x + (1 + g)).length → wordI (S (l.map fun x => x + (1 + g)) n) = "gains" := fun n h1 _ => by
    unfold wordI
    rw [if_pos (S_pos h1 fun x hx => by
      obtain ⟨y, hy, rfl⟩ := List.mem_map.mp hx
      have := ab y hy; omega)]
  have dn : ∀ n : Nat, 1 ≤ n → n ≤ (l.map fun x => x + -(1 + g)).length → wordI (S (l.map fun x => x + -(1 + g)) n) = "loses" := fun n h1 h2 => by
    have neg := S_negs (l := l.map fun x => x + -(1 + g)) h1 fun x hx => by
      obtain ⟨y, hy, rfl⟩ := List.mem_map.mp hx
      have := ab y hy; omega
    obtain ⟨y, hy⟩ := List.exists_mem_of_ne_nil _ (S_ne h2)
    unfold wordI
    rw [if_neg (fun z => by have := z y hy; have := neg y hy; omega), if_pos neg]
  have r1 : repTR [("gains" : Str)] (l.length : Int) = .ok (W (l.map fun x => x + (1 + g))) := by
    have z := repTR_ok (l := l.map fun x => x + (1 + g)) (hm _).1 (hm _).2 up
    rwa [List.length_map] at z
  have r2 : repTR [("loses" : Str)] (l.length : Int) = .ok (W (l.map fun x => x + -(1 + g))) := by
    have z := repTR_ok (l := l.map fun x => x + -(1 + g)) (hm _).1 (hm _).2 dn
    rwa [List.length_map] at z
  rw [plus_ok h0 hl, bind_ok, table_words_ok (hm _).1 (hm _).2, bind_ok, r1, bind_ok, eqR_ok (W_okS _) (W_okS _), bind_ok]
  simp only [decide_true, if_true]
  rw [plus_ok h0 hl, bind_ok, table_words_ok (hm _).1 (hm _).2, bind_ok, r2, bind_ok, eqR_ok (W_okS _) (W_okS _), bind_ok, bind_ok]
  simp only [decide_true]
  exact ⟨rfl, tk.mono (by omega)⟩
end K10

set_option Elab.async false
set_option linter.all false
set_option maxRecDepth 100000
set_option maxHeartbeats 4000000
namespace K10
open PySem PySem.Spec PyProof.Rows L2 Rl RZ RT Px Ty
local macro_rules | `(tactic| walk_at "num") => `(tactic| first | assumption | omega | decide)
local macro_rules | `(tactic| walk_at "ok") => `(tactic| with_reducible first
  | (refine wp_bok (mdR_ok ?_) ?_; (· with_unfolding_all walk_at "num"))
  | (refine wp_bok (fdR_ok ?_ ?_) ?_; (· with_unfolding_all walk_at "num"); (· with_unfolding_all walk_at "num"))
  | (refine wp_bok (rngR_ok ⟨⟨?_, ?_⟩, ?_, ?_⟩) ?_; (· with_unfolding_all walk_at "num"); (· with_unfolding_all walk_at "num"); (· with_unfolding_all walk_at "num"); (· with_unfolding_all walk_at "num"))
  | (refine wp_bok (mulR_l ?_) ?_; (· with_unfolding_all walk_at "num"))
  | (refine wp_bok (mulR_r ?_) ?_; (· with_unfolding_all walk_at "num"))
  | (refine wp_bok (ixR_ok ?_ ?_) ?_; (· with_unfolding_all walk_at "num"); (· with_unfolding_all walk_at "num"))
  | (refine wp_bok (lcM_ok ?_) ?_; (· with_unfolding_all walk_at "num"))
  | (refine wp_bok (lcF_ok ?_) ?_; (· with_unfolding_all walk_at "num"))
  | (refine wp_bok (addL_ok ?_) ?_; (· with_unfolding_all walk_at "num"))
  | (refine wp_bok (appR_ok ?_) ?_; (· with_unfolding_all walk_at "num"))
  | (refine wp_bok (setR_ok ?_ ?_) ?_; (· with_unfolding_all walk_at "num"); (· with_unfolding_all walk_at "num"))
  | (refine wp_bok (pwR_ok ⟨?_, ?_, ?_⟩) ?_; (· with_unfolding_all walk_at "num"); (· with_unfolding_all walk_at "num"); (· with_unfolding_all walk_at "num")))
local macro_rules | `(tactic| walk_at "t") => `(tactic| (repeat ((try dsimp only); walk_at "ok")); try dsimp only)
/-! ### a row joined with itself -/
theorem sum_take_twice (l : List Int) (b : Nat) (h : b ≤ l.length) : (((l ++ l).drop b).take l.length).sum = l.sum := by
  rw [← stretch, List.take_append, List.take_append, List.sum_append, List.sum_append, List.take_of_length_le (show l.length ≤ b + l.length by omega), show b + l.length - l.length = b by omega, show b - l.length = 0 by omega]
  simp
theorem S_twice (l : List Int) : S (l ++ l) l.length = (List.replicate ((l.length : Int) + 1).toNat [l.sum]).flatten := by
  have e : (List.replicate ((l.length : Int) + 1).toNat [l.sum]).flatten = List.replicate (l.length + 1) l.sum := by
    rw [show ((l.length : Int) + 1).toNat = l.length + 1 by omega]
    simp
  rw [e, List.eq_replicate_iff]
  refine ⟨by rw [S_len, List.length_append]; omega, fun x hx => ?_⟩
  unfold S at hx
  obtain ⟨b, hb, rfl⟩ := List.mem_map.mp hx
  have hb := List.mem_range.mp hb
  rw [List.length_append] at hb
  exact sum_take_twice l b (by omega)
theorem word_one {s : List Int} {x : Int} (hs : s ≠ []) (h : ∀ y ∈ s, y = x) : wordI s = if x > 0 then ("gains" : Str) else if x < 0 then ("loses" : Str) else ("flat" : Str) := by
  obtain ⟨y, hy⟩ := List.exists_mem_of_ne_nil _ hs
  have e1 : (∀ y ∈ s, 0 < y) ↔ x > 0 := ⟨fun z => by rw [← h y hy]; exact z y hy, fun z w hw => by rw [h w hw]; exact z⟩
  have e2 : (∀ y ∈ s, y < 0) ↔ x < 0 := ⟨fun z => by rw [← h y hy]; exact z y hy, fun z w hw => by rw [h w hw]; exact z⟩
  have e3 : (∀ y ∈ s, y = 0) ↔ x = 0 := ⟨fun z => by rw [← h y hy]; exact z y hy, fun z w hw => by rw [h w hw]; exact z⟩
  unfold wordI
  simp only [e1, e2, e3]
  split
  · rfl
  · split
    · rfl
    · rw [if_pos (by omega)]
end K10

set_option Elab.async false
set_option linter.all false
set_option maxRecDepth 100000
set_option maxHeartbeats 4000000
namespace K10
open PySem PySem.Spec PyProof.Rows L2 Rl RZ RT Px Ty
local macro_rules | `(tactic| walk_at "num") => `(tactic| first | assumption | omega | decide)
local macro_rules | `(tactic| walk_at "ok") => `(tactic| with_reducible first
  | (refine wp_bok (mdR_ok ?_) ?_; (· with_unfolding_all walk_at "num"))
  | (refine wp_bok (fdR_ok ?_ ?_) ?_; (· with_unfolding_all walk_at "num"); (· with_unfolding_all walk_at "num"))
  | (refine wp_bok (rngR_ok ⟨⟨?_, ?_⟩, ?_, ?_⟩) ?_; (· with_unfolding_all walk_at "num"); (· with_unfolding_all walk_at "num"); (· with_unfolding_all walk_at "num"); (· with_unfolding_all walk_at "num"))
  | (refine wp_bok (mulR_l ?_) ?_; (· with_unfolding_all walk_at "num"))
  | (refine wp_bok (mulR_r ?_) ?_; (· with_unfolding_all walk_at "num"))
  | (refine wp_bok (ixR_ok ?_ ?_) ?_; (· with_unfolding_all walk_at "num"); (· with_unfolding_all walk_at "num"))
  | (refine wp_bok (lcM_ok ?_) ?_; (· with_unfolding_all walk_at "num"))
  | (refine wp_bok (lcF_ok ?_) ?_; (· with_unfolding_all walk_at "num"))
  | (refine wp_bok (addL_ok ?_) ?_; (· with_unfolding_all walk_at "num"))
  | (refine wp_bok (appR_ok ?_) ?_; (· with_unfolding_all walk_at "num"))
  | (refine wp_bok (setR_ok ?_ ?_) ?_; (· with_unfolding_all walk_at "num"); (· with_unfolding_all walk_at "num"))
  | (refine wp_bok (pwR_ok ⟨?_, ?_, ?_⟩) ?_; (· with_unfolding_all walk_at "num"); (· with_unfolding_all walk_at "num"); (· with_unfolding_all walk_at "num")))
local macro_rules | `(tactic| walk_at "t") => `(tactic| (repeat ((try dsimp only); walk_at "ok")); try dsimp only)
/-! ### windows around a ring -/
def sumTo (f : Nat → Int) : Nat → Int
  | 0 => 0
  | n + 1 => sumTo f n + f n
theorem sumTo_shift (T : Nat → Int) (m : Nat) : ∀ n : Nat, sumTo (fun b => T (b + n) - T b) m = sumTo (fun j => T (m + j) - T j) n := by
  intro n
  induction n with
  | zero =>
    show _ = (0 : Int)
    have z : ∀ m : Nat, sumTo (fun b => T (b + 0) - T b) m = 0 := fun m => by
      induction m with
      | zero => rfl
      | succ m ih => show sumTo (fun b => T (b + 0) - T b) m + (T m - T m) = 0; rw [ih]; omega
    exact z m
  | succ n ih =>
    show _ = sumTo (fun j => T (m + j) - T j) n + (T (m + n) - T n)
    rw [← ih]
    have z : ∀ m : Nat, sumTo (fun b => T (b + (n + 1)) - T b) m = sumTo (fun b => T (b + n) - T b) m + (T (m + n) - T n) := fun m => by
      induction m with
      | zero => show (0 : Int) = 0 + (T (0 + n) - T n); rw [Nat.zero_add]; omega
      | succ m ih2 =>
        show sumTo (fun b => T (b + (n + 1)) - T b) m + (T (m + (n + 1)) - T m) = sumTo (fun b => T (b + n) - T b) m + (T (m + n) - T m) + (T (m + 1 + n) - T n)
        rw [ih2, show m + 1 + n = m + (n + 1) by omega]; omega
    exact z m
theorem sumTo_pos {f : Nat → Int} : ∀ m : Nat, 0 < m → (∀ b, b < m → 0 < f b) → 0 < sumTo f m
  | 0, h, _ => absurd h (by omega)
  | 1, _, h => by show 0 < (0 : Int) + f 0; have := h 0 (by omega); omega
  | m + 2, _, h => by
    have a := sumTo_pos (f := f) (m + 1) (by omega) fun b hb => h b (by omega)
    show 0 < sumTo f (m + 1) + f (m + 1)
    have := h (m + 1) (by omega)
    omega
theorem sumTo_zero {f : Nat → Int} : ∀ m : Nat, (∀ b, b < m → f b = 0) → sumTo f m = 0
  | 0, _ => rfl
  | m + 1, h => by show sumTo f m + f m = 0; rw [sumTo_zero m fun b hb => h b (by omega), h m (by omega)]; rfl
theorem ring_zero {l : List Int} {n : Nat} (h0 : l.sum = 0) (hn : n ≤ l.length) : sumTo (fun b => (((l ++ l).drop b).take n).sum) l.length = 0 := by
  have e : (fun b => (((l ++ l).drop b).take n).sum) = fun b => ((l ++ l).take (b + n)).sum - ((l ++ l).take b).sum := funext fun b => (stretch (l ++ l) b n).symm
  rw [e, sumTo_shift (fun i => ((l ++ l).take i).sum)]
  refine sumTo_zero n fun j hj => ?_
  show ((l ++ l).take (l.length + j)).sum - ((l ++ l).take j).sum = 0
  rw [List.take_append, List.take_append, List.sum_append, List.sum_append, List.take_of_length_le (show l.length ≤ l.length + j by omega), show l.length + j - l.length = j by omega, show j - l.length = 0 by omega, h0]
  simp
theorem ring_not {l : List Int} {n : Nat} (h0 : l.sum = 0) (h1 : 1 ≤ n) (hn : n ≤ l.length) : ¬ (∀ x ∈ S (l ++ l) n, 0 < x) ∧ ¬ (∀ x ∈ S (l ++ l) n, x < 0) := by
  have mem : ∀ b, b < l.length → (((l ++ l).drop b).take n).sum ∈ S (l ++ l) n := fun b hb => by
    unfold S
    exact List.mem_map.mpr ⟨b, List.mem_range.mpr (by rw [List.length_append]; omega), rfl⟩
  have z := ring_zero h0 hn
  constructor
  · intro p
    have := sumTo_pos l.length (by omega) fun b hb => p _ (mem b hb)
    omega
  · intro p
    have y := sumTo_pos (f := fun b => -(((l ++ l).drop b).take n).sum) l.length (by omega) fun b hb => by have := p _ (mem b hb); omega
    have e : ∀ m : Nat, sumTo (fun b => -(((l ++ l).drop b).take n).sum) m = -sumTo (fun b => (((l ++ l).drop b).take n).sum) m := fun m => by
      induction m with
      | zero => rfl
      | succ m ih => show sumTo _ m + _ = -(sumTo _ m + _); rw [ih]; exact Int.neg_add.symm
    rw [e] at y
    omega
end K10

set_option Elab.async false
set_option linter.all false
set_option maxRecDepth 100000
set_option maxHeartbeats 4000000
namespace K10
open PySem PySem.Spec PyProof.Rows L2 Rl RZ RT Px Ty
local macro_rules | `(tactic| walk_at "num") => `(tactic| first | assumption | omega | decide)
local macro_rules | `(tactic| walk_at "ok") => `(tactic| with_reducible first
  | (refine wp_bok (mdR_ok ?_) ?_; (· with_unfolding_all walk_at "num"))
  | (refine wp_bok (fdR_ok ?_ ?_) ?_; (· with_unfolding_all walk_at "num"); (· with_unfolding_all walk_at "num"))
  | (refine wp_bok (rngR_ok ⟨⟨?_, ?_⟩, ?_, ?_⟩) ?_; (· with_unfolding_all walk_at "num"); (· with_unfolding_all walk_at "num"); (· with_unfolding_all walk_at "num"); (· with_unfolding_all walk_at "num"))
  | (refine wp_bok (mulR_l ?_) ?_; (· with_unfolding_all walk_at "num"))
  | (refine wp_bok (mulR_r ?_) ?_; (· with_unfolding_all walk_at "num"))
  | (refine wp_bok (ixR_ok ?_ ?_) ?_; (· with_unfolding_all walk_at "num"); (· with_unfolding_all walk_at "num"))
  | (refine wp_bok (lcM_ok ?_) ?_; (· with_unfolding_all walk_at "num"))
  | (refine wp_bok (lcF_ok ?_) ?_; (· with_unfolding_all walk_at "num"))
  | (refine wp_bok (addL_ok ?_) ?_; (· with_unfolding_all walk_at "num"))
  | (refine wp_bok (appR_ok ?_) ?_; (· with_unfolding_all walk_at "num"))
  | (refine wp_bok (setR_ok ?_ ?_) ?_; (· with_unfolding_all walk_at "num"); (· with_unfolding_all walk_at "num"))
  | (refine wp_bok (pwR_ok ⟨?_, ?_, ?_⟩) ?_; (· with_unfolding_all walk_at "num"); (· with_unfolding_all walk_at "num"); (· with_unfolding_all walk_at "num")))
local macro_rules | `(tactic| walk_at "t") => `(tactic| (repeat ((try dsimp only); walk_at "ok")); try dsimp only)
theorem cut_toS {l : List Str} {n : Nat} (h : n ≤ l.length) : Px.cutD l none (some (n : Int)) = l.take n := by
  unfold Px.cutD HT.sIx
  simp only []
  rw [if_neg (by omega), show min (n : Int).toNat l.length = n by omega]
  simp
theorem twice_right_ok {l : List Int} (h0 : 0 < l.length) (hl : l.length ≤ 24) : m_law_twice_right l = .ok true := by
  unfold m_law_twice_right
  have la : (l ++ l).length = l.length + l.length := List.length_append
  have w1 : wordI (S (l ++ l) l.length) = if l.sum > 0 then ("gains" : Str) else if l.sum < 0 then ("loses" : Str) else ("flat" : Str) := by
    refine word_one (S_ne (by omega)) fun y hy => ?_
    unfold S at hy
    obtain ⟨b, hb, rfl⟩ := List.mem_map.mp hy
    have hb := List.mem_range.mp hb
    exact sum_take_twice l b (by omega)
  have w2 : wordI (S (l ++ l) (2 * (l.length : Int)).toNat) = wordI (S (l ++ l) l.length) := by
    rw [show (2 * (l.length : Int)).toNat = (l ++ l).length by omega, S_all, word_one (s := [(l ++ l).sum]) (x := (l ++ l).sum) (by simp) (by simp), w1, List.sum_append]
    by_cases c1 : l.sum > 0
    · rw [if_pos c1, if_pos (by omega)]
    · by_cases c2 : l.sum < 0
      · rw [if_neg c1, if_pos c2, if_neg (by omega), if_pos (by omega)]
      · rw [if_neg c1, if_neg c2, if_neg (by omega), if_neg (by omega)]
  rw [row_ok h0 (by omega), bind_ok]
  try dsimp only
  rw [joined_ok h0 (by omega), bind_ok, sums_ok (by omega) (by omega), bind_ok, show (l.length : Int).toNat = l.length by omega, S_twice,
    show repTR [l.sum] ((l.length : Int) + 1) = .ok (List.replicate ((l.length : Int) + 1).toNat [l.sum]).flatten from if_pos ⟨by simp, by omega, by simp⟩, bind_ok]
  simp only [decide_true, Bool.not_true, Bool.false_eq_true, if_false]
  rw [sort_of_ok (by omega) (by omega), bind_ok, show (l.length : Int).toNat = l.length by omega]
  simp only [decide_eq_true_eq]
  rw [← w1]
  simp only [decide_true, Bool.not_true, Bool.false_eq_true, if_false]
  rw [mulR_l (by decide), bind_ok, sort_of_ok (by omega) (by omega), bind_ok, w2]
  simp only [bind_ok, decide_true, Bool.not_true, Bool.false_eq_true, if_false]
  by_cases c : l.sum = 0
  · have hW : (W (l ++ l)).length = l.length + l.length := by unfold W; rw [List.length_map, irng_len']; omega
    rw [if_neg (by simp [c]), table_words_ok (by omega) (by omega), bind_ok, cut_toS (by omega), lcF_ok (by rw [List.length_take]; omega), bind_ok]
    have e : ((W (l ++ l)).take l.length).filter (fun x => decide (x ∈ [("gains" : Str), "loses"])) = [] := by
      rw [List.filter_eq_nil_iff]
      intro x hx
      obtain ⟨i, hi⟩ := List.getElem?_of_mem hx
      have li : i < l.length := by
        have z := (List.getElem?_eq_some_iff.mp hi).1
        rw [List.length_take] at z; omega
      rw [List.getElem?_take_of_lt li] at hi
      unfold W at hi
      rw [List.getElem?_map, irng_get (by omega)] at hi
      have hi : x = wordI (S (l ++ l) (1 + (i : Int)).toNat) := (Option.some.inj hi).symm
      have nn := ring_not (l := l) (n := (1 + (i : Int)).toNat) c (by omega) (by omega)
      rw [hi]
      unfold wordI
      rw [if_neg nn.1, if_neg nn.2]
      split <;> decide +kernel
    try dsimp only
    rw [e, List.map_nil, eqR_ok rfl rfl, bind_ok]
    rfl
  · rw [if_pos (by simp [c])]
    rfl
end K10

set_option Elab.async false
set_option linter.all false
set_option maxRecDepth 100000
set_option maxHeartbeats 4000000
namespace K10
open PySem PySem.Spec PyProof.Rows L2 Rl RZ RT Px Ty
local macro_rules | `(tactic| walk_at "num") => `(tactic| first | assumption | omega | decide)
local macro_rules | `(tactic| walk_at "ok") => `(tactic| with_reducible first
  | (refine wp_bok (mdR_ok ?_) ?_; (· with_unfolding_all walk_at "num"))
  | (refine wp_bok (fdR_ok ?_ ?_) ?_; (· with_unfolding_all walk_at "num"); (· with_unfolding_all walk_at "num"))
  | (refine wp_bok (rngR_ok ⟨⟨?_, ?_⟩, ?_, ?_⟩) ?_; (· with_unfolding_all walk_at "num"); (· with_unfolding_all walk_at "num"); (· with_unfolding_all walk_at "num"); (· with_unfolding_all walk_at "num"))
  | (refine wp_bok (mulR_l ?_) ?_; (· with_unfolding_all walk_at "num"))
  | (refine wp_bok (mulR_r ?_) ?_; (· with_unfolding_all walk_at "num"))
  | (refine wp_bok (ixR_ok ?_ ?_) ?_; (· with_unfolding_all walk_at "num"); (· with_unfolding_all walk_at "num"))
  | (refine wp_bok (lcM_ok ?_) ?_; (· with_unfolding_all walk_at "num"))
  | (refine wp_bok (lcF_ok ?_) ?_; (· with_unfolding_all walk_at "num"))
  | (refine wp_bok (addL_ok ?_) ?_; (· with_unfolding_all walk_at "num"))
  | (refine wp_bok (appR_ok ?_) ?_; (· with_unfolding_all walk_at "num"))
  | (refine wp_bok (setR_ok ?_ ?_) ?_; (· with_unfolding_all walk_at "num"); (· with_unfolding_all walk_at "num"))
  | (refine wp_bok (pwR_ok ⟨?_, ?_, ?_⟩) ?_; (· with_unfolding_all walk_at "num"); (· with_unfolding_all walk_at "num"); (· with_unfolding_all walk_at "num")))
local macro_rules | `(tactic| walk_at "t") => `(tactic| (repeat ((try dsimp only); walk_at "ok")); try dsimp only)
theorem W_get {l : List Int} {i : Nat} (h : i < l.length) : (W l)[i]? = some (wordI (S l (i + 1))) := by
  unfold W
  rw [List.getElem?_map, irng_get h]
  show some (wordI (S l (1 + (i : Int)).toNat)) = _
  rw [show (1 + (i : Int)).toNat = i + 1 by omega]
theorem W_len (l : List Int) : (W l).length = l.length := by unfold W; rw [List.length_map, irng_len']
theorem enum_get {τ : Type} : ∀ (l : List τ) (n : Nat) (p : Int × τ), p ∈ enumT n l → ∃ i : Nat, p.1 = (n : Int) + i ∧ l[i]? = some p.2
  | [], _, _, h => by cases h
  | x :: l, n, p, h => by
    rcases List.mem_cons.mp h with e | h
    · exact ⟨0, by rw [e]; simp, by rw [e]; rfl⟩
    · obtain ⟨i, h1, h2⟩ := enum_get l (n + 1) p h
      exact ⟨i + 1, by omega, by simpa using h2⟩
/-- what the whole has, not mixed, its part has -/
theorem word_part {s t : List Int} (hs : s ≠ []) (h : ∀ x ∈ s, x ∈ t) (hm : wordI t ≠ "mixed") : wordI s = wordI t := by
  obtain ⟨y, hy⟩ := List.exists_mem_of_ne_nil _ hs
  unfold wordI at hm ⊢
  by_cases a : ∀ x ∈ t, 0 < x
  · rw [if_pos a, if_pos fun x hx => a x (h x hx)]
  · rw [if_neg a] at hm ⊢
    by_cases b : ∀ x ∈ t, x < 0
    · rw [if_pos b, if_neg (fun z => by have := z y hy; have := b y (h y hy); omega), if_pos fun x hx => b x (h x hx)]
    · rw [if_neg b] at hm ⊢
      by_cases c : ∀ x ∈ t, x = 0
      · rw [if_pos c, if_neg (fun z => by have := z y hy; have := c y (h y hy); omega), if_neg (fun z => by have := z y hy; have := c y (h y hy); omega), if_pos fun x hx => c x (h x hx)]
      · rw [if_neg c] at hm; exact absurd rfl hm
theorem S_left {l o : List Int} {n : Nat} (hn : n ≤ l.length) : ∀ x ∈ S l n, x ∈ S (l ++ o) n := fun x hx => by
  unfold S at hx ⊢
  obtain ⟨b, hb, rfl⟩ := List.mem_map.mp hx
  have hb := List.mem_range.mp hb
  refine List.mem_map.mpr ⟨b, List.mem_range.mpr (by rw [List.length_append]; omega), ?_⟩
  show (((l ++ o).drop b).take n).sum = ((l.drop b).take n).sum
  rw [List.drop_append_of_le_length (by omega), List.take_append_of_le_length (by rw [List.length_drop]; omega)]
theorem S_right {l o : List Int} {n : Nat} (hn : n ≤ o.length) : ∀ x ∈ S o n, x ∈ S (l ++ o) n := fun x hx => by
  unfold S at hx ⊢
  obtain ⟨b, hb, rfl⟩ := List.mem_map.mp hx
  have hb := List.mem_range.mp hb
  refine List.mem_map.mpr ⟨l.length + b, List.mem_range.mpr (by rw [List.length_append]; omega), ?_⟩
  show (((l ++ o).drop (l.length + b)).take n).sum = ((o.drop b).take n).sum
  rw [List.drop_append, List.drop_of_length_le (show l.length ≤ l.length + b by omega), show l.length + b - l.length = b by omega, List.nil_append]
theorem joined_turn {l o q : List Int} (hl : l.length ≤ 24) (he : o.length = l.length) (hq : q.length = l.length) (hp : ∀ n : Nat, 1 ≤ n → n ≤ l.length → wordI (S (l ++ o) n) ≠ "mixed" → wordI (S q n) = wordI (S (l ++ o) n))
    (p : Int × Str) (h : p ∈ enumT 0 (W q)) : ((ixR (W (l ++ o)) p.1).bind fun t_41 =>
  Res.bind (if (!(decide (t_41 = ("mixed" : Str)))) then (ixR (W (l ++ o)) p.1).bind fun t_43 =>
  (Res.ok (!(decide (p.2 = t_43)))) else .ok false) fun b_42 => (Res.ok b_42)) = .ok false := by
  have la : (l ++ o).length = l.length + o.length := List.length_append
  obtain ⟨i, e1, e2⟩ := enum_get _ _ _ h
  have li : i < q.length := by
    have z := (List.getElem?_eq_some_iff.mp e2).1
    rwa [W_len] at z
  obtain ⟨p1, p2⟩ := p
  dsimp only at e1 e2 ⊢
  have e1 : p1 = (i : Int) := by omega
  subst e1
  rw [W_get li] at e2
  have e2 := (Option.some.inj e2).symm
  have gg : (W (l ++ o))[((i : Int)).toNat]? = some (wordI (S (l ++ o) (i + 1))) := by
    rw [Int.toNat_natCast]; exact W_get (by omega)
  have g : ixR (W (l ++ o)) (i : Int) = .ok (wordI (S (l ++ o) (i + 1))) := ixR_get (by omega) gg
  rw [g, bind_ok, bind_ok]
  by_cases c : wordI (S (l ++ o) (i + 1)) = ("mixed" : Str)
  · have cc : (!(decide (wordI (S (l ++ o) (i + 1)) = ("mixed" : Str)))) = false := by rw [decide_eq_true c]; rfl
    rw [cc, if_neg Bool.false_ne_true, bind_ok]
  · have cc : (!(decide (wordI (S (l ++ o) (i + 1)) = ("mixed" : Str)))) = true := by rw [decide_eq_false c]; rfl
    have dd : (!(decide (p2 = wordI (S (l ++ o) (i + 1))))) = false := by rw [decide_eq_true (by rw [e2]; exact hp (i + 1) (by omega) (by omega) c)]; rfl
    rw [cc, if_pos rfl, bind_ok, dd]
theorem joined_add {l o : List Int} (hl : l.length ≤ 24) (he : o.length = l.length) : addL l o = .ok (l ++ o) := addL_ok (by omega)
theorem joined_part {l o : List Int} (h0 : 0 < l.length) (he : o.length = l.length) {x : List Str} (hx : x = W l ∨ x = W o) :
    ∃ q : List Int, x = W q ∧ q.length = l.length ∧ ∀ n : Nat, 1 ≤ n → n ≤ l.length → wordI (S (l ++ o) n) ≠ "mixed" → wordI (S q n) = wordI (S (l ++ o) n) := by
  rcases hx with e | e
  · exact ⟨l, e, rfl, fun n h1 h2 hm => word_part (S_ne h2) (S_left h2) hm⟩
  · exact ⟨o, e, he, fun n h1 h2 hm => word_part (S_ne (by omega)) (S_right (by omega)) hm⟩
theorem joined_eq {l o : List Int} : eqR (okL okS) (W (l ++ o)) (W (l ++ o)) = .ok true := by
  rw [eqR_ok (W_okS _) (W_okS _), decide_eq_true rfl]
theorem joined_right_ok {l o : List Int} (h0 : 0 < l.length) (hl : l.length ≤ 24) (he : o.length = l.length) : m_law_joined_right l o = .ok true := by
  have la : (l ++ o).length = l.length + o.length := List.length_append
  have f1 := row_ok h0 (show l.length ≤ 48 by omega)
  have f2 := row_ok (l := o) (by omega) (by omega)
  have f3 := joined_ok (l := l) (o := o) h0 (by omega)
  have f4 := table_words_ok (l := l ++ o) (by omega) (by omega)
  have f5 := law_words_ok (l := l ++ o) (by omega)
  have f6 := table_words_ok (l := l) h0 (by omega)
  have f7 := table_words_ok (l := o) (by omega) (by omega)
  unfold m_law_joined_right
  rw [joined_add hl he, bind_ok, f1, bind_ok, f2, bind_ok, f3, bind_ok]
  dsimp only
  rw [f4, bind_ok, f5, bind_ok, joined_eq, bind_ok, if_neg (by decide), bind_ok, f6, bind_ok, bind_ok, f7, bind_ok]
  refine forR_all fun x hx => ?_
  have hx : x = W l ∨ x = W o := by
    rcases List.mem_cons.mp hx with e | hx
    · exact .inl e
    · exact .inr (List.mem_singleton.mp hx)
  obtain ⟨q, rfl, hq, hp⟩ := joined_part h0 he hx
  have z := lcR_nil (g := fun (x : Int × Str) => (Res.ok x.1 : Res Int)) (joined_turn hl he hq hp)
  rw [z, bind_ok]
  rfl
end K10

set_option Elab.async false
set_option linter.all false
set_option maxRecDepth 100000
set_option maxHeartbeats 4000000
namespace K10
open PySem PySem.Spec PyProof.Rows L2 Rl RZ RT Px Ty
local macro_rules | `(tactic| walk_at "num") => `(tactic| first | assumption | omega | decide)
local macro_rules | `(tactic| walk_at "ok") => `(tactic| with_reducible first
  | (refine wp_bok (mdR_ok ?_) ?_; (· with_unfolding_all walk_at "num"))
  | (refine wp_bok (fdR_ok ?_ ?_) ?_; (· with_unfolding_all walk_at "num"); (· with_unfolding_all walk_at "num"))
  | (refine wp_bok (rngR_ok ⟨⟨?_, ?_⟩, ?_, ?_⟩) ?_; (· with_unfolding_all walk_at "num"); (· with_unfolding_all walk_at "num"); (· with_unfolding_all walk_at "num"); (· with_unfolding_all walk_at "num"))
  | (refine wp_bok (mulR_l ?_) ?_; (· with_unfolding_all walk_at "num"))
  | (refine wp_bok (mulR_r ?_) ?_; (· with_unfolding_all walk_at "num"))
  | (refine wp_bok (ixR_ok ?_ ?_) ?_; (· with_unfolding_all walk_at "num"); (· with_unfolding_all walk_at "num"))
  | (refine wp_bok (lcM_ok ?_) ?_; (· with_unfolding_all walk_at "num"))
  | (refine wp_bok (lcF_ok ?_) ?_; (· with_unfolding_all walk_at "num"))
  | (refine wp_bok (addL_ok ?_) ?_; (· with_unfolding_all walk_at "num"))
  | (refine wp_bok (appR_ok ?_) ?_; (· with_unfolding_all walk_at "num"))
  | (refine wp_bok (setR_ok ?_ ?_) ?_; (· with_unfolding_all walk_at "num"); (· with_unfolding_all walk_at "num"))
  | (refine wp_bok (pwR_ok ⟨?_, ?_, ?_⟩) ?_; (· with_unfolding_all walk_at "num"); (· with_unfolding_all walk_at "num"); (· with_unfolding_all walk_at "num")))
local macro_rules | `(tactic| walk_at "t") => `(tactic| (repeat ((try dsimp only); walk_at "ok")); try dsimp only)
def zadd (l o : List Int) : List Int := (l.zip o).map fun x => x.1 + x.2
theorem zadd_drop : ∀ (n : Nat) (l o : List Int), (zadd l o).drop n = zadd (l.drop n) (o.drop n)
  | 0, _, _ => rfl
  | n + 1, [], o => by simp [zadd]
  | n + 1, x :: l, [] => by simp [zadd]
  | n + 1, x :: l, y :: o => zadd_drop n l o
theorem zadd_take : ∀ (n : Nat) (l o : List Int), (zadd l o).take n = zadd (l.take n) (o.take n)
  | 0, _, _ => by simp [zadd]
  | n + 1, [], o => by simp [zadd]
  | n + 1, x :: l, [] => by simp [zadd]
  | n + 1, x :: l, y :: o => by
    show (x + y) :: (zadd l o).take n = (x + y) :: zadd (l.take n) (o.take n)
    rw [zadd_take n l o]
theorem zadd_sum : ∀ (l o : List Int), l.length = o.length → (zadd l o).sum = l.sum + o.sum
  | [], [], _ => rfl
  | x :: l, y :: o, h => by
    show ((x + y) :: zadd l o).sum = _
    rw [List.sum_cons, List.sum_cons, List.sum_cons, zadd_sum l o (by simpa using h)]
    omega
theorem zadd_len {l o : List Int} (h : o.length = l.length) : (zadd l o).length = l.length := by
  unfold zadd; rw [List.length_map, List.length_zip]; omega
def su (l : List Int) (n b : Nat) : Int := ((l.drop b).take n).sum
theorem S_su (l : List Int) (n : Nat) : S l n = (List.range (l.length + 1 - n)).map (su l n) := rfl
theorem S_zadd {l o : List Int} (h : o.length = l.length) (n : Nat) : S (zadd l o) n = (List.range (l.length + 1 - n)).map fun b => su l n b + su o n b := by
  rw [S_su, zadd_len h]
  refine List.map_congr_left fun b _ => ?_
  unfold su
  rw [zadd_drop, zadd_take, zadd_sum]
  rw [List.length_take, List.length_take, List.length_drop, List.length_drop, h]
theorem word_gains {s : List Int} (h : wordI s = ("gains" : Str)) : ∀ x ∈ s, 0 < x := by
  unfold wordI at h
  by_cases a : ∀ x ∈ s, 0 < x
  · exact a
  · rw [if_neg a] at h
    split at h
    · exact absurd h (by decide)
    · split at h
      · exact absurd h (by decide)
      · exact absurd h (by decide)
theorem word_loses {s : List Int} (h : wordI s = ("loses" : Str)) : ∀ x ∈ s, x < 0 := by
  unfold wordI at h
  split at h
  · exact absurd h (by decide)
  · split at h
    · assumption
    · split at h
      · exact absurd h (by decide)
      · exact absurd h (by decide)
theorem word_flat {s : List Int} (h : wordI s = ("flat" : Str)) : ∀ x ∈ s, x = 0 := by
  unfold wordI at h
  split at h
  · exact absurd h (by decide)
  · split at h
    · exact absurd h (by decide)
    · split at h
      · assumption
      · exact absurd h (by decide)
theorem word_four (s : List Int) : wordI s = ("gains" : Str) ∨ wordI s = ("loses" : Str) ∨ wordI s = ("flat" : Str) ∨ wordI s = ("mixed" : Str) := by
  unfold wordI
  split
  · exact .inl rfl
  · split
    · exact .inr (.inl rfl)
    · split
      · exact .inr (.inr (.inl rfl))
      · exact .inr (.inr (.inr rfl))
theorem word_same {k : Nat} (hk : 0 < k) {f g : Nat → Int} (e : wordI ((List.range k).map f) = wordI ((List.range k).map g)) (hm : wordI ((List.range k).map f) ≠ ("mixed" : Str)) :
    wordI ((List.range k).map fun b => f b + g b) = wordI ((List.range k).map f) := by
  have z : 0 ∈ List.range k := List.mem_range.mpr hk
  have at_ : ∀ {p : Int → Prop} {q : Nat → Int}, (∀ x ∈ (List.range k).map q, p x) → ∀ b ∈ List.range k, p (q b) := fun h b hb => h _ (List.mem_map.mpr ⟨b, hb, rfl⟩)
  rcases word_four ((List.range k).map f) with c | c | c | c
  · have a1 := at_ (word_gains c)
    have a2 := at_ (word_gains (e.symm.trans c))
    rw [c]; unfold wordI
    rw [if_pos fun x hx => by
      obtain ⟨b, hb, rfl⟩ := List.mem_map.mp hx
      have := a1 b hb; have := a2 b hb; omega]
  · have a1 := at_ (word_loses c)
    have a2 := at_ (word_loses (e.symm.trans c))
    rw [c]; unfold wordI
    rw [if_neg fun h => by
      have := at_ h 0 z; have := a1 0 z; have := a2 0 z; omega, if_pos fun x hx => by
      obtain ⟨b, hb, rfl⟩ := List.mem_map.mp hx
      have := a1 b hb; have := a2 b hb; omega]
  · have a1 := at_ (word_flat c)
    have a2 := at_ (word_flat (e.symm.trans c))
    rw [c]; unfold wordI
    rw [if_neg fun h => by
      have := at_ h 0 z; have := a1 0 z; have := a2 0 z; omega, if_neg fun h => by
      have := at_ h 0 z; have := a1 0 z; have := a2 0 z; omega, if_pos fun x hx => by
      obtain ⟨b, hb, rfl⟩ := List.mem_map.mp hx
      have := a1 b hb; have := a2 b hb; omega]
  · exact absurd c hm
theorem word_flat1 {k : Nat} {f g : Nat → Int} (c : wordI ((List.range k).map f) = ("flat" : Str)) : ((List.range k).map fun b => f b + g b) = (List.range k).map g :=
  List.map_congr_left fun b hb => by
    have := word_flat c _ (List.mem_map.mpr ⟨b, hb, rfl⟩); omega
theorem word_flat2 {k : Nat} {f g : Nat → Int} (c : wordI ((List.range k).map g) = ("flat" : Str)) : ((List.range k).map fun b => f b + g b) = (List.range k).map f :=
  List.map_congr_left fun b hb => by
    have := word_flat c _ (List.mem_map.mpr ⟨b, hb, rfl⟩); omega
theorem pair0 {a b : Str} : ixR [a, b] 0 = .ok a := ixR_get (by decide) rfl
theorem pair1 {a b : Str} : ixR [a, b] 1 = .ok b := ixR_get (by decide) rfl
theorem pair_ix {a b : Str} (h : ("flat" : Str) ∈ [a, b]) : (a = ("flat" : Str) ∧ idxSR [a, b] ("flat" : Str) = .ok 0) ∨ (b = ("flat" : Str) ∧ idxSR [a, b] ("flat" : Str) = .ok 1) := by
  unfold idxSR
  rw [if_pos h]
  by_cases c : a = ("flat" : Str)
  · refine .inl ⟨c, ?_⟩
    subst c
    rw [List.idxOf_cons_self]; rfl
  · refine .inr ?_
    have hb : b = ("flat" : Str) := by
      rcases List.mem_cons.mp h with e | h
      · exact absurd e.symm c
      · exact (List.mem_singleton.mp h).symm
    refine ⟨hb, ?_⟩
    subst hb
    have cb : (a == ("flat" : Str)) = false := beq_eq_false_iff_ne.mpr c
    rw [List.idxOf_cons, cb, cond_false, List.idxOf_cons_self]; rfl
theorem added_turn {l o : List Int} (h0 : 0 < l.length) (hl : l.length ≤ 48) (he : o.length = l.length) (x : Int × Str) (hx : x ∈ enumT 0 (W (zadd l o))) :
    ((ixR (W l) x.1).bind fun t_49 =>
  (ixR (W o) x.1).bind fun t_50 =>
  let pair_48 := [t_49, t_50]
  (ixR pair_48 0).bind fun t_60 =>
  (ixR pair_48 1).bind fun t_61 =>
  Res.bind (if (decide (t_60 = t_61)) then (ixR pair_48 0).bind fun t_63 =>
  Res.bind (if (!(decide (t_63 = ("mixed" : Str)))) then (ixR pair_48 0).bind fun t_65 =>
  (Res.ok (!(decide (x.2 = t_65)))) else .ok false) fun b_64 =>
  (Res.ok b_64) else .ok false) fun b_62 =>
  (if b_62 then
  (Res.ok (Flow.rt false))
  else
  Res.bind (if (decide (("flat" : Str) ∈ pair_48)) then (idxSR pair_48 ("flat" : Str)).bind fun t_72 =>
  (ixR pair_48 (1 - t_72)).bind fun t_73 =>
  (Res.ok (!(decide (x.2 = t_73)))) else .ok false) fun b_71 =>
  (if b_71 then
  (Res.ok (Flow.rt false))
  else
  (Res.ok (Flow.nx () ()))))) = (.ok (.nx () ()) : Res (Flow Unit Unit Bool)) := by
  obtain ⟨i, e1, e2⟩ := enum_get _ _ _ hx
  have li : i < l.length := by
    have z := (List.getElem?_eq_some_iff.mp e2).1
    rwa [W_len, zadd_len he] at z
  obtain ⟨p1, p2⟩ := x
  dsimp only at e1 e2 ⊢
  have e1 : p1 = (i : Int) := by omega
  subst e1
  rw [W_get (by rw [zadd_len he]; exact li)] at e2
  have e2 := (Option.some.inj e2).symm
  have g1 : ixR (W l) (i : Int) = .ok (wordI (S l (i + 1))) := ixR_get (by omega) (by rw [Int.toNat_natCast]; exact W_get li)
  have g2 : ixR (W o) (i : Int) = .ok (wordI (S o (i + 1))) := ixR_get (by omega) (by rw [Int.toNat_natCast]; exact W_get (by omega))
  have k0 : 0 < l.length + 1 - (i + 1) := by omega
  have so : S o (i + 1) = (List.range (l.length + 1 - (i + 1))).map (su o (i + 1)) := by rw [S_su, he]
  rw [S_zadd he] at e2
  have w1 : wordI (S l (i + 1)) = wordI (S o (i + 1)) → wordI (S l (i + 1)) ≠ ("mixed" : Str) → p2 = wordI (S l (i + 1)) := fun a b => by
    rw [so, S_su] at a
    rw [S_su] at b ⊢
    rw [e2, word_same k0 a b]
  have w2 : wordI (S l (i + 1)) = ("flat" : Str) → p2 = wordI (S o (i + 1)) := fun a => by
    rw [S_su] at a
    rw [e2, word_flat1 a, so]
  have w3 : wordI (S o (i + 1)) = ("flat" : Str) → p2 = wordI (S l (i + 1)) := fun a => by
    rw [so] at a
    rw [e2, word_flat2 a, ← S_su]
  rw [g1, bind_ok, g2, bind_ok, pair0, bind_ok, pair1, bind_ok]
  generalize wordI (S l (i + 1)) = a at *
  generalize wordI (S o (i + 1)) = b at *
  have s1 : (Res.bind (if (decide (a = b)) then (Res.ok a : Res Str).bind fun t_63 =>
  Res.bind (if (!(decide (t_63 = ("mixed" : Str)))) then (Res.ok a : Res Str).bind fun t_65 =>
  (Res.ok (!(decide (p2 = t_65)))) else .ok false) fun b_64 =>
  (Res.ok b_64) else .ok false) : (Bool → Res (Flow Unit Unit Bool)) → Res (Flow Unit Unit Bool)) = Res.bind (.ok false) := by
    by_cases c : a = b
    · rw [decide_eq_true c, if_pos rfl, bind_ok]
      by_cases c2 : a = ("mixed" : Str)
      · rw [decide_eq_true c2, Bool.not_true, if_neg Bool.false_ne_true, bind_ok]
      · rw [decide_eq_false c2, Bool.not_false, if_pos rfl, bind_ok, decide_eq_true (w1 c c2), Bool.not_true, bind_ok]
    · rw [decide_eq_false c, if_neg Bool.false_ne_true]
  rw [s1, bind_ok, if_neg Bool.false_ne_true]
  have s2 : (Res.bind (if (decide (("flat" : Str) ∈ [a, b])) then (idxSR [a, b] ("flat" : Str)).bind fun t_72 =>
  (ixR [a, b] (1 - t_72)).bind fun t_73 =>
  (Res.ok (!(decide (p2 = t_73)))) else .ok false) : (Bool → Res (Flow Unit Unit Bool)) → Res (Flow Unit Unit Bool)) = Res.bind (.ok false) := by
    by_cases c : ("flat" : Str) ∈ [a, b]
    · rw [decide_eq_true c, if_pos rfl]
      rcases pair_ix c with ⟨q, z⟩ | ⟨q, z⟩
      · rw [z, bind_ok, show ((1 : Int) - 0) = 1 from rfl, pair1, bind_ok, decide_eq_true (w2 q), Bool.not_true]
      · rw [z, bind_ok, show ((1 : Int) - 1) = 0 from rfl, pair0, bind_ok, decide_eq_true (w3 q), Bool.not_true]
    · rw [decide_eq_false c, if_neg Bool.false_ne_true]
  rw [s2, bind_ok, if_neg Bool.false_ne_true]
theorem zadd_lcM {l o : List Int} (hl : l.length ≤ 48) (he : o.length = l.length) : lcM (fun (x_13 : Int × Int) => (x_13.1 + x_13.2)) (l.zip o) = .ok (zadd l o) := lcM_ok (by rw [List.length_zip]; omega)
theorem added_eq {l o : List Int} : eqR (okL okS) (W (zadd l o)) (W (zadd l o)) = .ok true := by
  rw [eqR_ok (W_okS _) (W_okS _), decide_eq_true rfl]
theorem added_right_ok {l o : List Int} (h0 : 0 < l.length) (hl : l.length ≤ 48) (he : o.length = l.length) : m_law_added_right l o = .ok true := by
  have lz := zadd_len he
  have f1 := row_ok h0 hl
  have f2 := row_ok (l := o) (by omega) (by omega)
  have f3 : m_Row_added (row l) (row o) = .ok (row (zadd l o)) := added_ok h0 hl he
  have f4 := table_words_ok (l := zadd l o) (by omega) (by omega)
  have f5 := law_words_ok (l := zadd l o) (by omega)
  have f6 := law_words_ok (l := l) hl
  have f7 := law_words_ok (l := o) (by omega)
  unfold m_law_added_right
  rw [f1, bind_ok, f2, bind_ok, f3, bind_ok, f6, bind_ok, f7, bind_ok]
  dsimp only
  rw [f4, bind_ok, zadd_lcM hl he, bind_ok, f5, bind_ok, added_eq, bind_ok, if_neg (by decide)]
  exact forR_all (added_turn h0 hl he)
end K10

set_option Elab.async false
set_option linter.all false
set_option maxRecDepth 100000
set_option maxHeartbeats 4000000
namespace K10
open PySem PySem.Spec PyProof.Rows L2 Rl RZ RT Px Ty
local macro_rules | `(tactic| walk_at "num") => `(tactic| first | assumption | omega | decide)
local macro_rules | `(tactic| walk_at "ok") => `(tactic| with_reducible first
  | (refine wp_bok (mdR_ok ?_) ?_; (· with_unfolding_all walk_at "num"))
  | (refine wp_bok (fdR_ok ?_ ?_) ?_; (· with_unfolding_all walk_at "num"); (· with_unfolding_all walk_at "num"))
  | (refine wp_bok (rngR_ok ⟨⟨?_, ?_⟩, ?_, ?_⟩) ?_; (· with_unfolding_all walk_at "num"); (· with_unfolding_all walk_at "num"); (· with_unfolding_all walk_at "num"); (· with_unfolding_all walk_at "num"))
  | (refine wp_bok (mulR_l ?_) ?_; (· with_unfolding_all walk_at "num"))
  | (refine wp_bok (mulR_r ?_) ?_; (· with_unfolding_all walk_at "num"))
  | (refine wp_bok (ixR_ok ?_ ?_) ?_; (· with_unfolding_all walk_at "num"); (· with_unfolding_all walk_at "num"))
  | (refine wp_bok (lcM_ok ?_) ?_; (· with_unfolding_all walk_at "num"))
  | (refine wp_bok (lcF_ok ?_) ?_; (· with_unfolding_all walk_at "num"))
  | (refine wp_bok (addL_ok ?_) ?_; (· with_unfolding_all walk_at "num"))
  | (refine wp_bok (appR_ok ?_) ?_; (· with_unfolding_all walk_at "num"))
  | (refine wp_bok (setR_ok ?_ ?_) ?_; (· with_unfolding_all walk_at "num"); (· with_unfolding_all walk_at "num"))
  | (refine wp_bok (pwR_ok ⟨?_, ?_, ?_⟩) ?_; (· with_unfolding_all walk_at "num"); (· with_unfolding_all walk_at "num"); (· with_unfolding_all walk_at "num")))
local macro_rules | `(tactic| walk_at "t") => `(tactic| (repeat ((try dsimp only); walk_at "ok")); try dsimp only)
theorem known_wp {b : Int} {t : TapT} (h : TapOk b t) (hb : b ≤ 1000000) : (m_law_known t).wp fun r => (1 ≤ r.1.length ∧ r.1.length ≤ 16) ∧ TapOk (b + 1) r.2 := by
  unfold m_law_known m_law_any_1
  rw [bind_assoc]
  refine wp_bnd (drip_wp h hb (by decide) (by decide)) fun r hr => ?_
  rw [bind_assoc]
  refine wp_bok (ixR_ok hr.1.1 hr.1.2) ?_
  refine ⟨?_, hr.2⟩
  have key : ∀ z ∈ ([[(-3), 5, (-3), (-3), 5, (-3)], [5, 5, (-13), 5, 5, 5, (-13), 5, 5, (-13), 5, 5, 5, (-13), 5, 5], [(-1), 3, (-1), (-3), 0, 3, (-1)], [1, (-1), 1, (-1), 1], [0, 0, 0], [(-1), 2, (-1)], [4]] : List (List Int)), 1 ≤ z.length ∧ z.length ≤ 16 := by decide
  exact key _ (List.getElem_mem _)
theorem rep0 {n : Nat} (h0 : 1 ≤ n) (h : n ≤ 16) : repL [(0 : Int)] (n : Int) = .ok (List.replicate ((n : Int)).toNat [(0 : Int)]).flatten := if_pos ⟨by omega, by show 1 * ((n : Int)).toNat ≤ 16777216; omega⟩
theorem rep0_len {n : Nat} : (List.replicate ((n : Int)).toNat [(0 : Int)]).flatten.length = n := by simp
theorem law_wp (l : List Int) : m_law l = .ok true := by
  refine ok_of_wp ?_
  unfold m_law
  refine wp_bnd (tap_wp l) fun t ht => ?_
  try dsimp only
  refine wp_bok (rngR_ok (by omega)) ?_
  refine forR_wp (fun i _ s => TapOk (300 * i) s.2) _ 0 () ((), t) (by simpa using ht) (fun i x v s hx hi => ?_) fun v s _ => rfl
  have hi3 : i < 3 := by
    have z := (List.getElem?_eq_some_iff.mp hx).1
    rw [irng_len'] at z; omega
  rw [Nat.zero_add] at hi
  have tk : TapOk 900 s.2 := hi.mono (by omega)
  generalize hB : (300 * (i : Int)) = B at hi
  have hB2 : B ≤ 600 := by omega
  refine wp_bnd (any_wp hi (by omega) (by decide) (by decide)) fun r83 h83 => ?_
  obtain ⟨hd, tk⟩ := h83
  have hd : 1 ≤ r83.1 ∧ r83.1 ≤ 16 := (show ∀ z ∈ ([6, 12, 5, 1, 16, 7, 2, 8, 9, 3] : List Int), 1 ≤ z ∧ z ≤ 16 by decide) _ hd
  try dsimp only
  refine wp_bnd (gains_wp tk (by omega) (by omega) (by omega)) fun r84 h84 => ?_
  obtain ⟨hl, tk⟩ := h84
  try dsimp only
  refine wp_bnd (R := fun q => (1 ≤ q.1.length ∧ q.1.length ≤ 16) ∧ TapOk (B + 100) q.2.2) ?_ fun q hq => ?_
  · refine wp_bnd (drip_wp tk (by omega) (by decide) (by decide)) fun r152 h152 => ?_
    obtain ⟨_, tk⟩ := h152
    refine wp_ite (fun _ => ?_) fun _ => ⟨by dsimp only; omega, tk.mono (by omega)⟩
    exact wp_bnd (known_wp tk (by omega)) fun r hr => ⟨hr.1, hr.2.mono (by omega)⟩
  obtain ⟨v1, s1⟩ := q
  obtain ⟨hv, tk⟩ := hq
  dsimp only at hv tk ⊢
  refine wp_bnd (gains_wp tk (by omega) (by omega) (by omega)) fun r98 h98 => ?_
  obtain ⟨hl, tk⟩ := h98
  try dsimp only
  refine wp_bnd (R := fun q => q.1.length = v1.length ∧ TapOk (B + 200) q.2.2) ?_ fun q hq => ?_
  · refine wp_bnd (drip_wp tk (by omega) (by decide) (by decide)) fun r139 h139 => ?_
    obtain ⟨_, tk⟩ := h139
    refine wp_ite (fun _ => ?_) fun _ => ⟨by dsimp only; omega, tk.mono (by omega)⟩
    refine wp_bnd (drip_wp tk (by omega) (by decide) (by decide)) fun r143 h143 => ?_
    obtain ⟨_, tk⟩ := h143
    refine wp_bnd (R := fun q => q.1.length = v1.length ∧ TapOk (B + 200) q.2.2) ?_ fun q hq => hq
    refine wp_ite (fun _ => ?_) fun _ => ?_
    · rw [rep0 hv.1 hv.2, bind_ok]
      exact ⟨rep0_len, tk.mono (by omega)⟩
    · refine wp_bnd (R := fun q => q.1.length = v1.length ∧ TapOk (B + 200) q.2.2) ?_ fun q hq => hq
      refine lcS_wp (fun i acc s => acc.length = i ∧ TapOk (B + 165 + i) s.2) _ 0 [] _ (Nat.zero_le _) (by omega) ⟨rfl, tk.mono (by omega)⟩ (fun j x acc s hx hi => ?_) fun acc s hi => ?_
      · have hj := (List.getElem?_eq_some_iff.mp hx).1
        rw [Nat.zero_add] at hi
        obtain ⟨ha, hc⟩ := hi
        rw [if_pos rfl]
        refine wp_bnd (any_wp hc (by omega) (by decide) (by decide)) fun r hr => ?_
        obtain ⟨hm, hc⟩ := hr
        have hm : r.1.natAbs < 2 ^ 64 := (show ∀ z ∈ ([2, (-1), 3] : List Int), z.natAbs < 2 ^ 64 by decide) _ hm
        rw [mulR_l hm, bind_ok]
        exact ⟨by rw [List.length_append, List.length_singleton]; omega, hc.mono (by omega)⟩
      · rw [Nat.zero_add] at hi
        exact ⟨hi.1, hi.2.mono (by omega)⟩
  obtain ⟨v2, s2⟩ := q
  obtain ⟨hv2, tk⟩ := hq
  dsimp only at hv2 tk ⊢
  refine wp_bnd (alone_right_wp tk (by omega) (by omega) (by omega)) fun r126 h126 => ?_
  obtain ⟨ha, tk⟩ := h126
  have g1 := added_right_ok (l := v1) (o := v2) (by omega) (by omega) hv2
  have g2 := joined_right_ok (l := v1) (o := v2) (by omega) (by omega) hv2
  have g3 := twice_right_ok (l := v1) (by omega) (by omega)
  rw [ha, if_neg (by decide), g1, bind_ok, bind_ok, if_neg (by decide), g2, bind_ok, if_neg (by decide), g3, bind_ok, bind_ok, if_neg (by decide)]
  show TapOk _ _
  exact tk.mono (by omega)
theorem law_ok {l : List Int} : w_law [.scr l] (fun _ => none) (fun v _ => v = D.bl true) noX := T_law l _ _ _ (by rw [law_wp]; exact rfl)
end K10

set_option Elab.async false
set_option linter.all false
set_option maxRecDepth 100000
set_option maxHeartbeats 0
namespace K10
open PySem PySem.Spec PyProof.Rows L2 Rl RZ RT Px Ty
section
variable {P : Program} {w : World} {K : PySem.W.Frag} {mg : Str → Option Value} {base : Heap}
theorem all_ok (b : Bd K mg) : GoodF P w K mg base 7 d_law ["_law_script"] (sp_law K w) := by
  have h_Row_eq : GoodF P w K mg base 1 d_Row_eq ["self", "other"] (sp_Row_eq K w) := ok_Row_eq b 
  have h_word_of : GoodF P w K mg base 1 d_word_of ["told"] (sp_word_of K w) := ok_word_of b 
  have h_sums_in : GoodF P w K mg base 1 d_sums_in ["row", "length"] (sp_sums_in K w) := ok_sums_in b 
  have h_need_row : GoodF P w K mg base 1 d_need_row ["value", "part"] (sp_need_row K w) := ok_need_row b 
  have h_table_words : GoodF P w K mg base 2 d_table_words ["row"] (sp_table_words K w) := ok_table_words b h_word_of h_sums_in h_need_row
  have h_is_integer : GoodF P w K mg base 1 d_is_integer ["value"] (sp_is_integer K w) := ok_is_integer b 
  have h_is_within : GoodF P w K mg base 2 d_is_within ["value", "least", "most"] (sp_is_within K w) := ok_is_within b h_is_integer
  have h_need_number : GoodF P w K mg base 3 d_need_number ["value", "part", "least", "most"] (sp_need_number K w) := ok_need_number b h_is_within
  have h_need_length : GoodF P w K mg base 4 d_need_length ["row", "length"] (sp_need_length K w) := ok_need_length b h_need_number h_need_row
  have h_sort_of : GoodF P w K mg base 5 d_sort_of ["row", "length"] (sp_sort_of K w) := ok_sort_of b h_word_of h_sums_in h_need_length
  have h_sums : GoodF P w K mg base 5 d_sums ["row", "length"] (sp_sums K w) := ok_sums b h_sums_in h_need_length
  have h_heights_of : GoodF P w K mg base 1 d_heights_of ["gains"] (sp_heights_of K w) := ok_heights_of b 
  have h_are_integers : GoodF P w K mg base 2 d_are_integers ["value"] (sp_are_integers K w) := ok_are_integers b h_is_integer
  have h_Row_init : GoodF P w K mg base 3 d_Row_init ["self", "gains"] (sp_Row_init K w) := ok_Row_init b h_heights_of h_are_integers
  have h_Row_joined : GoodF P w K mg base 5 d_Row_joined ["self", "other"] (sp_Row_joined K w) := ok_Row_joined b h_Row_init h_need_row
  have h_Row_len : GoodF P w K mg base 1 d_Row_len ["self"] (sp_Row_len K w) := ok_Row_len b 
  have h_law_twice_right : GoodF P w K mg base 6 d_law_twice_right ["_law_gains_here"] (sp_law_twice_right K w) := ok_law_twice_right b h_Row_eq h_table_words h_sort_of h_sums h_Row_joined h_Row_len h_Row_init
  have h_law_word : GoodF P w K mg base 3 d_law_word ["_law_told"] (sp_law_word K w) := ok_law_word b h_Row_eq h_Row_len
  have h_law_sums : GoodF P w K mg base 3 d_law_sums ["_law_gains_here", "_law_length"] (sp_law_sums K w) := ok_law_sums b h_Row_len
  have h_law_words : GoodF P w K mg base 4 d_law_words ["_law_gains_here"] (sp_law_words K w) := ok_law_words b h_Row_len h_law_word h_law_sums
  have h_law_joined_right : GoodF P w K mg base 6 d_law_joined_right ["_law_gains_here", "_law_others"] (sp_law_joined_right K w) := ok_law_joined_right b h_table_words h_Row_init h_Row_eq h_law_words h_Row_joined
  have h_Row_added : GoodF P w K mg base 5 d_Row_added ["self", "other"] (sp_Row_added K w) := ok_Row_added b h_Row_init h_need_row
  have h_law_added_right : GoodF P w K mg base 6 d_law_added_right ["_law_gains_here", "_law_others"] (sp_law_added_right K w) := ok_law_added_right b h_Row_eq h_law_words h_table_words h_Row_init h_Row_added
  have h_Row_plus : GoodF P w K mg base 5 d_Row_plus ["self", "number"] (sp_Row_plus K w) := ok_Row_plus b h_Row_init h_need_number
  have h_law_drip : GoodF P w K mg base 3 d_law_drip ["_law_tap_here", "_law_many"] (sp_law_drip K w) := ok_law_drip b h_Row_len h_Row_eq
  have h_law_any : GoodF P w K mg base 4 d_law_any ["_law_tap_here", "_law_some"] (sp_law_any K w) := ok_law_any b h_law_drip h_Row_len
  have h_Row_times : GoodF P w K mg base 5 d_Row_times ["self", "number"] (sp_Row_times K w) := ok_Row_times b h_Row_init h_need_number
  have h_Row_backwards : GoodF P w K mg base 5 d_Row_backwards ["self"] (sp_Row_backwards K w) := ok_Row_backwards b h_Row_init
  have h_law_alone_right : GoodF P w K mg base 6 d_law_alone_right ["_law_tap_here", "_law_gains_here"] (sp_law_alone_right K w) := ok_law_alone_right b h_Row_eq h_table_words h_Row_plus h_sums h_law_sums h_law_any h_Row_times h_Row_backwards h_law_drip h_Row_len h_law_words h_Row_init
  have h_law_gains : GoodF P w K mg base 5 d_law_gains ["_law_tap_here", "_law_days"] (sp_law_gains K w) := ok_law_gains b h_Row_eq h_law_any h_law_drip h_Row_len
  have h_law_known : GoodF P w K mg base 5 d_law_known ["_law_tap_here"] (sp_law_known K w) := ok_law_known b h_law_any
  have h_law_tap : GoodF P w K mg base 1 d_law_tap ["_law_script"] (sp_law_tap K w) := ok_law_tap b 
  exact ok_law b h_law_twice_right h_law_joined_right h_law_added_right h_law_alone_right h_Row_eq h_law_drip h_law_any h_law_gains h_law_known h_law_tap
end
def obsBG2 (n : Nat) (fa : List Fb) (fn : List Df) (g : Addr → Option Obj) : Rl.Al := obsB fa fn (He.frG g (cStatics :: He.asD g n))
def hookB2 (n : Nat) (fa : List Fb) (fn : List Df) : PySem.W.Hook where
  α := Rl.Al
  obs := fun s => obsBG2 n fa fn s.heap.get?
  val := fun _ => valB fn
  says := fun _ h => ∃ K : PySem.W.Frag, K.In h ∧ SaysB fa fn K
  of := fun _ _ e => ⟨_, He.frG_in, e⟩
  keeps := fun _ _ _ ⟨K, hK, c⟩ k => ⟨K, PySem.W.Frag.In.keeps hK k, c⟩
theorem obsBG2_eq {n : Nat} {fa : List Fb} {fn : List Df} {g : Addr → Option Obj} {s : Shared} (h : ∀ a, g a = s.heap.get? a) : obsBG2 n fa fn g = (hookB2 n fa fn).obs s := by
  have e : g = s.heap.get? := funext h
  rw [e] <;> rfl
def fb : List Fb := fa ++ [.he (.glo "law")]
theorem fb_says {K : PySem.W.Frag} (c : SaysB fb fn K) : SaysB fa fn K ∧ (Fb.he (.glo "law")).ok K = true := by
  have c1 := (He.ba (show ((fb.all fun f => f.ok K) && fn.all fun d => d.ok K) = true from congrArg (fun z : Rl.Al => z.1) c))
  have c2 : fn.map (fun d => fnW K (ad K d.loc)) = fn.map Df.val := congrArg (fun z : Rl.Al => z.2) c
  have c3 : ((fa.all fun f => f.ok K) && ([Fb.he (.glo "law")].all fun f => f.ok K)) = true := by
    rw [← List.all_append]; exact c1.1
  obtain ⟨c4, c5⟩ := He.ba c3
  refine ⟨?_, by simpa using c5⟩
  show ((fa.all fun f => f.ok K) && fn.all fun d => d.ok K, fn.map fun d => fnW K (ad K d.loc)) = (true, fn.map Df.val)
  rw [c4, c1.2, c2]
  rfl
abbrev R : PySem.W.OpenRow := PySem.W.OpenLaw.row PySem.Challenge.rw_anyseven_k10_sorts_go_along
abbrev hk : PySem.W.Hook := hookB2 6 fb fn
def ob (s : PySem.W.SharedT) : Rl.Al := obsBG2 6 fb fn (HandSHeadRun.getT s)
theorem ob_eq (s : PySem.W.SharedT) : ob s = hk.obs s.abs := obsBG2_eq (HandSHeadRun.getT_eq s)
def names0 : List PySem.Str := ["_wall", "DayError", "BadRow", "BadNumber", "Misfit", "TooMany", "BadText", "DIGITS", "is_integer", "is_within", "are_integers", "need_number", "MOST_DIGITS", "integer_of", "Scan", "MOST_DAYS", "need_row", "need_stretch", "heights_of", "Row", "GAINS", "LOSES", "FLAT", "MIXED", "need_length", "sums_in", "word_of", "sums", "sort_of", "table_words"]
def names1 : List PySem.Str := ["_law_tap", "_law_drip", "_law_any", "_law_gains", "_law_known", "_law_sums", "_law_word", "_law_words", "_law_alone_right", "_law_added_right", "_law_joined_right", "_law_twice_right"]
def names : List PySem.Str := names0 ++ names1
theorem run (w : World) : HandSHeadRun.RunEq R (PySem.W.view R.prog [48]) hk ob 4000 names w := by
  intro os
  kernel_rfl
theorem fd_uniq {K : PySem.W.Frag} {x qual : Str} {params : Arguments} {body : List Stmt} {scope : Scope} {dvs : List V} {kws : List (Str × V)} {f : Addr} {fd fd' : FuncData} (h : FunD K x qual params body scope dvs kws f fd) (h' : FunD K x qual params body scope dvs kws f fd') : fd = fd' := by
  obtain ⟨oc, od, dV, kV, doc, pm, an, cdv, ct, osl, e, lk, _⟩ := h.ex
  obtain ⟨oc', od', dV', kV', doc', pm', an', cdv', ct', osl', e', lk', _⟩ := h'.ex
  rw [lk] at lk'
  have z := congrArg Obj.data (Option.some.inj lk')
  exact Data.func.inj z
theorem law_start {K : PySem.W.Frag} {w : World} {mg : Str → Option Value} (b : Bd K mg) (H : Hp) (a : Addr) (ns : List Int) (hS : SqL K H a (ns.map V.int)) : sp_law K w [.ref a] H (fun v _ => v = .bl true) fun _ _ _ => False :=
  sd_all (w := w) b (fun _ => none) H H (fun _ => none) [.ref a] [.scr ns] (fun v _ => v = .bl true) noX (fun v _ => v = .bl true) (fun _ _ _ => False)
    { gh := (fun _ _ h => by cases h), fh := Evl.Ex.refl H, gf := (fun _ _ h => by cases h), gm := (fun _ _ h => by cases h), mc := (fun _ _ h => by cases h) }
    (.cons (.scr hS) .nil) law_ok (fun F' H' v x M' hk _ _ i => by
      cases hk
      cases i
      rfl)
theorem facts {P : Program} {w : World} {K : PySem.W.Frag} {h : Heap} {mg : Str → Option Value} {f : Addr} (X : K.In h) (G : h.Ns mainGlobals mg) (hfa : mg ("law" : Str) = some (.ref f)) (c0 : SaysB fb fn K) :
    ∃ fd : FuncData, (∀ (s : Shared) (v : Value), BindsTo s fd ⟨[v], []⟩ [("_law_script", v)]) ∧ (∀ (H : Hp) (a : Addr) (ns : List Int), SqL K H a (ns.map V.int) → sp_law K w [.ref a] H (fun v _ => v = .bl true) fun _ _ _ => False) ∧ ∀ base : Heap, K.In base → base.Ns mainGlobals mg → FnOk P w K mg base CX0 7 f fd ["_law_script"] (sp_law K w) := by
  obtain ⟨c, cl⟩ := fb_says c0
  have b : Bd K mg := ⟨h, X, G, c⟩
  obtain ⟨fd, F⟩ := c.def_ 32 (d := d_law) rfl
  have e : mg ("law" : Str) = some (.ref (ad K d_law.loc)) := He.glo_ok X G cl
  have e2 : f = ad K d_law.loc := by
    have := hfa.symm.trans e
    cases this
    rfl
  subst e2
  have bd := FunD.bindsA (ps := ["_law_script"]) F fun _ _ _ _ _ _ us hl => match us, hl with | [_], _ => rfl
  refine ⟨fd, fun s v => bd s [v] rfl, fun H a ns hS => law_start b H a ns hS, fun base _ _ => ?_⟩
  obtain ⟨fd', G', F'⟩ := all_ok (P := P) (w := w) (base := base) b
  rw [fd_uniq F F']
  exact G'
end K10
open PySem PySem.W PySem.Calls PyProof.Rows
theorem PySem.Challenge.cw_anyseven_k10_sorts_go_along_holds : PySem.Challenge.rw_anyseven_k10_sorts_go_along.Holds := by
  w_on; o_law
  refine HandSHeadRun.head_any (r := OpenLaw.row PySem.Challenge.rw_anyseven_k10_sorts_go_along) (q := view (OpenLaw.row PySem.Challenge.rw_anyseven_k10_sorts_go_along).prog [48]) (H := K10.hk) (ob := K10.ob) (M := 4000) (loose := K10.names) (d := HandSHeadRun.topDef (OpenLaw.row PySem.Challenge.rw_anyseven_k10_sorts_go_along).prog 48) (kwd := []) K10.ob_eq
    (by kernel_rfl) (fun s => by kernel_rfl) K10.run (by kernel_rfl) (by kernel_rfl) (by kernel_rfl) (by rfl) (by first | assumption | decide +kernel) (by decide +kernel) ⟨rfl, rfl, rfl, rfl, rfl, by decide +kernel⟩ ?hw ?hc
  case hw => w_witness2
  case hc =>
    refine L2.walk_ofE (l := PySem.Challenge.rw_anyseven_k10_sorts_go_along) (n := 63) (k := 7) (x := "_law_script") (CX := L2.CX0) rfl (by decide) (by kernel_rfl) ⟨rfl, by decide, by decide⟩ ?F (fun _ _ _ _ z => z)
    intro w mg fa h Y G hmg0
    obtain ⟨K, KX, c⟩ := Y
    have hmg : mg ("law" : PySem.Str) = some (.ref fa) := by
      have e : (HandSHeadRun.topDef (OpenLaw.row PySem.Challenge.rw_anyseven_k10_sorts_go_along).prog 48).name = ("law" : PySem.Str) := by kernel_rfl
      rw [← e]
      exact hmg0
    obtain ⟨fd, hb, hs, hF⟩ := K10.facts (P := (PySem.Challenge.rw_anyseven_k10_sorts_go_along).prog) (w := w) KX G hmg c
    exact ⟨K, fd, K10.sp_law K w, KX, hb, fun H a ns hl _ hS => hs H a ns hS, hF⟩

